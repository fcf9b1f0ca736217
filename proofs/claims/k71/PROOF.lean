import PyProof.Rows.All
import Wide.All
import OpenK.AllK
import Wide.FinOn
import HandS.ForMost
import HandS.ForExc
import HandS.Walk
import HandS.Lambda
import HandS.IsInst
import HandS.Wide
import HandS.TupAny
import HandS.TupLe
import HandS.Deep
import HandS.Zip
import HandS.Style
import HandS.SortInts
import HandS.Conv
import HandS.HotCalls
import HandS.Dict
import HandS.More
import KE.GoesEnum
import KE.GoesZip
import HandS.HeadHook1
import HandS.Small
import KE.KTupSum
import KE.SortData
import HandS.SetFor
import HandS.Strs
import KE.KSliceW
import HandS.Comp
import KE.KExcIs
import HandS.HeadWalk
import HandS.Defaults
import HandS.Head0
import HandS.Head1
import HandS.Head2
import HandS.HeadEnd
import HandS.HeadHook2
import HandS.HeadHook3
import HandS.HeadHook4
import PySem.Challenge.RW_leaguechains_k71_worst_refused
set_option Elab.async false
set_option linter.all false
set_option maxRecDepth 100000
set_option maxHeartbeats 0
set_option exponentiation.threshold 600
/-! plain data over the hand layer: what data stands at a value, how states grow -/
namespace PD
open PySem PySem.Spec PyProof.Rows L2
abbrev D := PyData
abbrev Frg := PySem.W.Frag
/-- the script's own list -/
def scr (ns : List Int) : D := .dict [(.none, .list (ns.map .int))]
/-- a dict's keys as data -/
def kD : Key → D
  | .inl i => .int i
  | .inr x => .str x
/-- a dict as data -/
def dicD (ks : List Key) (ds : List D) : D := .dict [(.bool true, .list (ks.map kD)), (.none, .list ds)]
mutual
inductive DR (K : Frg) (G : Hp) : V → D → Prop
  | non : DR K G .non .none
  | bl (b : Bool) : DR K G (.bl b) (.bool b)
  | int (i : Int) : DR K G (.int i) (.int i)
  | str (x : Str) : DR K G (.str x) (.str x)
  | lst {a : Addr} {vs : List V} {ds : List D} : G a = some (.lst vs) → DRs K G vs ds → DR K G (.ref a) (.list ds)
  | tup {a : Addr} {vs : List V} {ds : List D} : SqT K G a vs → DRs K G vs ds → DR K G (.ref a) (.tuple ds)
  | scr {a : Addr} {ns : List Int} : SqL K G a (ns.map V.int) → DR K G (.ref a) (.dict [(.none, .list (ns.map .int))])
  | dct {a : Addr} {ks : List Key} {vs : List V} {ds : List D} : G a = some (.dK (ks.zip vs)) → ks.length = vs.length → DRs K G vs ds → DR K G (.ref a) (.dict [(.bool true, .list (ks.map kD)), (.none, .list ds)])
inductive DRs (K : Frg) (G : Hp) : List V → List D → Prop
  | nil : DRs K G [] []
  | cons {v : V} {vs : List V} {d : D} {ds : List D} : DR K G v d → DRs K G vs ds → DRs K G (v :: vs) (d :: ds)
end
/-- all but tables stay -/
def Xt (H H' : Hp) : Prop := ∀ b o, H b = some o → (∀ ps, o ≠ .tbl ps) → H' b = some o
section
variable {K : Frg} {G G' G'' H H' : Hp}
theorem Xt.refl (H : Hp) : Xt H H := fun _ _ h _ => h
theorem Xt.trans (a : Xt G G') (b : Xt G' G'') : Xt G G'' := fun c o h n => b c o (a c o h n) n
theorem Xt.lst (x : Xt G G') {a : Addr} {vs : List V} (h : G a = some (.lst vs)) : G' a = some (.lst vs) := x a _ h fun ps z => by cases z
theorem Xt.tup (x : Xt G G') {a : Addr} {vs : List V} (h : G a = some (.tup vs)) : G' a = some (.tup vs) := x a _ h fun ps z => by cases z
theorem Xt.dK (x : Xt G G') {a : Addr} {vs : List (Key × V)} (h : G a = some (.dK vs)) : G' a = some (.dK vs) := x a _ h fun ps z => by cases z
theorem Xt.rdT (x : Xt G G') {a : Addr} {vs : List V} (h : Rd G a (.tup vs)) : Rd G' a (.tup vs) := by
  rcases h with h | ⟨o, h⟩
  · exact .inl (x.tup h)
  · exact .inr ⟨o, x a _ h fun ps z => by cases z⟩
theorem Xt.rdL (x : Xt G G') {a : Addr} {vs : List V} (h : Rd G a (.lst vs)) : Rd G' a (.lst vs) := by
  rcases h with h | ⟨o, h⟩
  · exact .inl (x.lst h)
  · exact .inr ⟨o, x a _ h fun ps z => by cases z⟩
theorem Xt.sqT (x : Xt G G') {a : Addr} {vs : List V} (h : SqT K G a vs) : SqT K G' a vs := by
  rcases h with h | h
  · exact .inl (x.rdT h)
  · exact .inr h
theorem Xt.sqL (x : Xt G G') {a : Addr} {vs : List V} (h : SqL K G a vs) : SqL K G' a vs := by
  rcases h with h | h
  · exact .inl (x.rdL h)
  · exact .inr h
theorem Xt.upd {a : Addr} {o : HO} (h : G a = none) : Xt G (upd G a o) := fun b u e _ => by
  rw [upd_ne (ne_of_none e h)]
  exact e
mutual
theorem DR.mono (x : Xt G G') : ∀ (d : D) (v : V), DR K G v d → DR K G' v d
  | d, v, h => by
    cases h with
    | non => exact .non
    | bl b => exact .bl b
    | int i => exact .int i
    | str y => exact .str y
    | lst e r => exact .lst (x.lst e) (DRs.mono x _ _ r)
    | tup e r => exact .tup (x.sqT e) (DRs.mono x _ _ r)
    | scr e => exact .scr (x.sqL e)
    | dct e l r => exact .dct (x.dK e) l (DRs.mono x _ _ r)
termination_by d => sizeOf d
theorem DRs.mono (x : Xt G G') : ∀ (ds : List D) (vs : List V), DRs K G vs ds → DRs K G' vs ds
  | ds, vs, h => by
    cases h with
    | nil => exact .nil
    | cons a r => exact .cons (DR.mono x _ _ a) (DRs.mono x _ _ r)
termination_by ds => sizeOf ds
end
theorem DR.up {v : V} {d : D} (h : DR K G v d) (x : Xt G G') : DR K G' v d := DR.mono x _ _ h
theorem DRs.up {v : List V} {d : List D} (h : DRs K G v d) (x : Xt G G') : DRs K G' v d := DRs.mono x _ _ h
theorem DRs.length : ∀ {vs : List V} {ds : List D}, DRs K G vs ds → vs.length = ds.length
  | _, _, .nil => rfl
  | _, _, .cons _ r => by rw [List.length_cons, List.length_cons, DRs.length r]
theorem DRs.append : ∀ {vs ws : List V} {ds es : List D}, DRs K G vs ds → DRs K G ws es → DRs K G (vs ++ ws) (ds ++ es)
  | _, _, _, _, .nil, s => s
  | _, _, _, _, .cons a r, s => .cons a (DRs.append r s)
theorem DRs.get : ∀ {vs : List V} {ds : List D} {i : Nat} {d : D}, DRs K G vs ds → ds[i]? = some d → ∃ v, vs[i]? = some v ∧ DR K G v d
  | _, _, _, _, .nil, e => by simp at e
  | _, _, 0, _, .cons a r, e => by simp at e; subst e; exact ⟨_, rfl, a⟩
  | _, _, i + 1, d, .cons _ r, e => by
    obtain ⟨v, h1, h2⟩ := DRs.get (i := i) (d := d) r (by simpa using e)
    exact ⟨v, by simpa using h1, h2⟩
theorem DRs.getV : ∀ {vs : List V} {ds : List D} {i : Nat} {v : V}, DRs K G vs ds → vs[i]? = some v → ∃ d, ds[i]? = some d ∧ DR K G v d
  | _, _, _, _, .nil, e => by simp at e
  | _, _, 0, _, .cons a r, e => by simp at e; subst e; exact ⟨_, rfl, a⟩
  | _, _, i + 1, d, .cons _ r, e => by
    obtain ⟨v, h1, h2⟩ := DRs.getV (i := i) (v := d) r (by simpa using e)
    exact ⟨v, by simpa using h1, h2⟩
theorem DRs.take : ∀ {vs : List V} {ds : List D} (n : Nat), DRs K G vs ds → DRs K G (vs.take n) (ds.take n)
  | _, _, 0, _ => .nil
  | _, _, _ + 1, .nil => .nil
  | _, _, n + 1, .cons a r => .cons a (DRs.take n r)
theorem DRs.drop : ∀ {vs : List V} {ds : List D} (n : Nat), DRs K G vs ds → DRs K G (vs.drop n) (ds.drop n)
  | _, _, 0, r => r
  | _, _, _ + 1, .nil => .nil
  | _, _, n + 1, .cons _ r => DRs.drop n r
theorem DRs.set {v : V} {d : D} (x : DR K G v d) : ∀ {vs : List V} {ds : List D} (i : Nat), DRs K G vs ds → DRs K G (vs.set i v) (ds.set i d)
  | _, _, _, .nil => .nil
  | _, _, 0, .cons _ t => .cons x t
  | _, _, i + 1, .cons q t => .cons q (DRs.set x i t)
theorem DRs.eraseIdx : ∀ {vs : List V} {ds : List D} (i : Nat), DRs K G vs ds → DRs K G (vs.eraseIdx i) (ds.eraseIdx i)
  | _, _, _, .nil => .nil
  | _, _, 0, .cons _ t => t
  | _, _, i + 1, .cons q t => .cons q (DRs.eraseIdx i t)
theorem DRs.reverse {vs : List V} {ds : List D} (h : DRs K G vs ds) : DRs K G vs.reverse ds.reverse := by
  induction vs generalizing ds with
  | nil => cases h; exact .nil
  | cons v vs ih =>
    cases h with
    | cons a r =>
      rw [List.reverse_cons, List.reverse_cons]
      exact (ih r).append (.cons a .nil)
theorem DRs.dropLast {vs : List V} {ds : List D} (h : DRs K G vs ds) : DRs K G vs.dropLast ds.dropLast := by
  rw [List.dropLast_eq_take, List.dropLast_eq_take, h.length]
  exact h.take _
theorem DRs.rep {vs : List V} {ds : List D} (h : DRs K G vs ds) : ∀ k : Nat, DRs K G (List.replicate k vs).flatten (List.replicate k ds).flatten
  | 0 => .nil
  | k + 1 => by
    rw [List.replicate_succ, List.replicate_succ, List.flatten_cons, List.flatten_cons]
    exact h.append (DRs.rep h k)
theorem DRs.map {α : Type} {f : α → V} {g : α → D} : ∀ {l : List α}, (∀ x ∈ l, DR K G (f x) (g x)) → DRs K G (l.map f) (l.map g)
  | [], _ => .nil
  | a :: l, h => .cons (h a (by simp)) (DRs.map fun x hx => h x (by simp [hx]))
/-- ints are the ints -/
theorem DRs.ints : ∀ {vs : List V} {ns : List Int}, DRs K G vs (ns.map .int) → vs = ns.map V.int
  | _, [], h => by cases h; rfl
  | _, n :: ns, h => by
    cases h with
    | cons a r =>
      cases a
      rw [DRs.ints r]
      rfl
theorem DRs.bools : ∀ {vs : List V} {ns : List Bool}, DRs K G vs (ns.map .bool) → vs = ns.map V.bl
  | _, [], h => by cases h; rfl
  | _, n :: ns, h => by
    cases h with
    | cons a r =>
      cases a
      rw [DRs.bools r]
      rfl
end
/-! ### what all of a program's defs share -/
structure Sys where
  P : Program
  w : World
  K : Frg
  mg : Str → Option Value
  base : Heap
  T : List (Addr × Str)
  ca : Str → Addr
/-- what is frozen stands, and is no table -/
def Sb (G H : Hp) : Prop := ∀ b o, G b = some o → H b = some o ∧ ∀ ps, o ≠ .tbl ps
/-- how frozen and whole heap grow -/
structure Gr (S : Sys) (G H G' H' : Hp) : Prop where
  h : Xt H H'
  g : Xt G G'
  gh : Sb G' H'
  n : ∀ p, H p ≠ none → G p = none → G' p = none
  dom : ∀ p, H' p = none → H p = none
  t : LamX.Tabs S.T H → LamX.Tabs S.T H'
section
variable {S : Sys} {G H G1 H1 G2 H2 : Hp}
theorem Sb.xt (s : Sb G H) : Xt G H := fun b o e _ => (s b o e).1
theorem Sb.none (s : Sb G H) {p : Addr} (h : H p = none) : G p = none := by
  cases e : G p with
  | none => rfl
  | some o =>
    have h2 := (s p o e).1
    rw [h] at h2
    cases h2
theorem Sb.up (s : Sb G H) (x : Xt H H1) : Sb G H1 := fun b o e => ⟨x b o (s b o e).1 (s b o e).2, (s b o e).2⟩
theorem Gr.refl (x : Sb G H) : Gr S G H G H := ⟨Xt.refl H, Xt.refl G, x, fun _ _ h => h, fun _ h => h, fun h => h⟩
theorem Gr.trans (a : Gr S G H G1 H1) (b : Gr S G1 H1 G2 H2) : Gr S G H G2 H2 :=
  ⟨a.h.trans b.h, a.g.trans b.g, b.gh, fun p h1 h2 => b.n p (fun z => h1 (a.dom p z)) (a.n p h1 h2), fun p h => a.dom p (b.dom p h), fun h => b.t (a.t h)⟩
/-- an object that is no table and no code object may be laid or changed: tables stay -/
theorem tabs_upd {T : List (Addr × Str)} {p : Addr} {o : HO} (h : LamX.Tabs T H) (hp : ∀ u, H p = some u → (∀ ps, u ≠ .tbl ps) ∧ ∀ c q, u ≠ LamX.CodeO c q) : LamX.Tabs T (upd H p o) := fun x hx => by
  obtain ⟨ps, h1, h2, h3⟩ := h x hx
  have e1 : x.1 ≠ p := fun z => (hp (.tbl ps) (by rw [← z]; exact h1)).1 ps rfl
  refine ⟨ps, by rw [upd_ne e1]; exact h1, h2, fun pos cv hc => ?_⟩
  obtain ⟨c, e2, e3⟩ := h3 pos cv hc
  have e4 : c ≠ p := fun z => (hp _ (by rw [← z]; exact e3)).2 _ _ rfl
  exact ⟨c, e2, by rw [upd_ne e4]; exact e3⟩
theorem tabs_new {T : List (Addr × Str)} {p : Addr} {o : HO} (h : LamX.Tabs T H) (hp : H p = none) : LamX.Tabs T (upd H p o) := tabs_upd h fun u e => by rw [hp] at e; cases e
theorem codeO_lst {xs : List V} {c : Addr} {q : Str} : HO.lst xs ≠ LamX.CodeO c q := fun z => by unfold LamX.CodeO at z; cases z
theorem codeO_dK {xs : List (Key × V)} {c : Addr} {q : Str} : HO.dK xs ≠ LamX.CodeO c q := fun z => by unfold LamX.CodeO at z; cases z
theorem tabs_lst {T : List (Addr × Str)} {p : Addr} {o : HO} {xs : List V} (h : LamX.Tabs T H) (hp : H p = some (.lst xs)) : LamX.Tabs T (upd H p o) := tabs_upd h fun u e => by
  rw [hp] at e
  cases e
  exact ⟨fun ps z => (by cases z), fun c q => codeO_lst⟩
theorem tabs_dK {T : List (Addr × Str)} {p : Addr} {o : HO} {xs : List (Key × V)} (h : LamX.Tabs T H) (hp : H p = some (.dK xs)) : LamX.Tabs T (upd H p o) := tabs_upd h fun u e => by
  rw [hp] at e
  cases e
  exact ⟨fun ps z => (by cases z), fun c q => codeO_dK⟩
/-- a new object, not frozen -/
theorem Gr.new {p : Addr} {o : HO} (x : Sb G H) (hp : H p = none) : Gr S G H G (upd H p o) :=
  ⟨Xt.upd hp, Xt.refl G, x.up (Xt.upd hp), fun _ _ h => h, fun q e => by
    by_cases z : q = p
    · rw [z]; exact hp
    · rwa [upd_ne z] at e, fun h => tabs_new h hp⟩
/-- what is known and no table may be frozen, if it was new -/
theorem Gr.frz {p : Addr} {o : HO} (x : Gr S G H G1 H1) (hp : H p = none) (hg : G1 p = none) (ho : H1 p = some o) (hn : ∀ ps, o ≠ .tbl ps) : Gr S G H (upd G1 p o) H1 :=
  ⟨x.h, x.g.trans (Xt.upd hg), fun b u e => by
    by_cases z : b = p
    · rw [z, upd_same] at e
      cases e
      rw [z]
      exact ⟨ho, hn⟩
    · rw [upd_ne z] at e
      exact x.gh b u e, fun q h1 h2 => by
    have z : q ≠ p := fun z => h1 (by rw [z]; exact hp)
    rw [upd_ne z]
    exact x.n q h1 h2, x.dom, x.t⟩
/-- a new object, frozen at once -/
theorem Gr.newF {p : Addr} {o : HO} (x : Sb G H) (hp : H p = none) (hn : ∀ ps, o ≠ .tbl ps) : Gr S G H (upd G p o) (upd H p o) :=
  Gr.frz (Gr.new x hp) hp (x.none hp) upd_same hn
end
end PD
/-! slots, outcomes, how readings evaluate -/
namespace PD
open PySem PySem.Spec PyProof.Rows L2
/-- what a run gives: it is not said; a refusal of the class c; a value -/
inductive M (α : Type) where
  | stuck | ex (c : Str) | ok (a : α)
def M.bind {α β : Type} : M α → (α → M β) → M β
  | .stuck, _ => .stuck
  | .ex c, _ => .ex c
  | .ok a, f => f a
instance : Monad M where
  pure := M.ok
  bind := M.bind
@[simp] theorem M.ok_bind {α β : Type} (a : α) (f : α → M β) : (M.ok a).bind f = f a := rfl
@[simp] theorem M.ex_bind {α β : Type} (c : Str) (f : α → M β) : (M.ex c : M α).bind f = .ex c := rfl
@[simp] theorem M.stuck_bind {α β : Type} (f : α → M β) : (M.stuck : M α).bind f = .stuck := rfl
/-- a name's or an expression's content: nothing, frozen data, an own list, a new list of nobody's -/
inductive L where
  | un | d (x : D) | own (xs : List D) | fr (xs : List D) | dc (ks : List Key) (ds : List D)
/-- the content as frozen data -/
def L.fz : L → M D
  | .d x => .ok x
  | .fr xs => .ok (.list xs)
  | _ => .stuck
/-- the items of a list or a tuple, as they may be read -/
def L.rd : L → M D
  | .d x => .ok x
  | .fr xs => .ok (.list xs)
  | .own xs => .ok (.list xs)
  | _ => .stuck
section
variable (S : Sys)
/-- a value that may be read; H0: what was ahead of its making -/
def WR (H0 G H : Hp) (v : V) : L → Prop
  | .un => False
  | .d x => DR S.K G v x
  | .own xs => ∃ p vs, v = .ref p ∧ H p = some (.lst vs) ∧ DRs S.K G vs xs
  | .fr xs => ∃ p vs, v = .ref p ∧ H0 p = none ∧ G p = none ∧ H p = some (.lst vs) ∧ DRs S.K G vs xs
  | .dc ks ds => ∃ p vs, v = .ref p ∧ H p = some (.dK (ks.zip vs)) ∧ ks.length = vs.length ∧ DRs S.K G vs ds
inductive WRs (H0 G H : Hp) : List V → List L → Prop
  | nil : WRs H0 G H [] []
  | cons {v : V} {vs : List V} {l : L} {ls : List L} : WR S H0 G H v l → WRs H0 G H vs ls → WRs H0 G H (v :: vs) (l :: ls)
/-- a slot; as: the addresses that it owns -/
def SR (H0 G H : Hp) (sv : Option V) : L → List Addr → Prop
  | .un, as => as = []
  | .d x, as => as = [] ∧ ∃ v, sv = some v ∧ DR S.K G v x
  | .own xs, as => ∃ p vs, as = [p] ∧ sv = some (.ref p) ∧ H0 p = none ∧ G p = none ∧ H p = some (.lst vs) ∧ DRs S.K G vs xs
  | .fr _, _ => False
  | .dc ks ds, as => ∃ p vs, as = [p] ∧ sv = some (.ref p) ∧ H0 p = none ∧ G p = none ∧ H p = some (.dK (ks.zip vs)) ∧ ks.length = vs.length ∧ DRs S.K G vs ds
inductive SRs (H0 G H : Hp) : L2.St → List L → List (List Addr) → Prop
  | nil : SRs H0 G H [] [] []
  | cons {sv : Option V} {σ : L2.St} {l : L} {ls : List L} {as : List Addr} {ass : List (List Addr)} : SR S H0 G H sv l as → SRs H0 G H σ ls ass → SRs H0 G H (sv :: σ) (l :: ls) (as :: ass)
def EnvR (H0 G H : Hp) (σ : L2.St) (env : List L) : Prop := ∃ ass, SRs S H0 G H σ env ass ∧ ass.flatten.Nodup
end
section
variable {S : Sys} {H0 H0' G H G1 H1 G2 H2 : Hp} {v : V} {vs : List V} {l : L} {ls : List L} {sv : Option V} {as : List Addr} {σ : L2.St} {env : List L}
theorem WR.up (h : WR S H0 G H v l) (x : Gr S G H G1 H1) : WR S H0 G1 H1 v l := by
  cases l with
  | un => exact h
  | d y => exact DR.up h x.g
  | own xs =>
    obtain ⟨p, us, e, a, r⟩ := h
    exact ⟨p, us, e, x.h.lst a, r.up x.g⟩
  | fr xs =>
    obtain ⟨p, us, e, z, g, a, r⟩ := h
    exact ⟨p, us, e, z, x.n p (fun q => by rw [a] at q; cases q) g, x.h.lst a, r.up x.g⟩
  | dc ks ds =>
    obtain ⟨p, us, e, a, l, r⟩ := h
    exact ⟨p, us, e, x.h.dK a, l, r.up x.g⟩
theorem WR.back (h : WR S H0 G H v l) (x : ∀ p, H0 p = none → H0' p = none) : WR S H0' G H v l := by
  cases l with
  | un => exact h
  | d y => exact h
  | own xs => exact h
  | fr xs =>
    obtain ⟨p, us, e, z, g, a, r⟩ := h
    exact ⟨p, us, e, x p z, g, a, r⟩
  | dc ks ds => exact h
theorem WRs.up (h : WRs S H0 G H vs ls) (x : Gr S G H G1 H1) : WRs S H0 G1 H1 vs ls := by
  induction h with
  | nil => exact .nil
  | cons a _ ih => exact .cons (a.up x) ih
theorem WRs.back (h : WRs S H0 G H vs ls) (x : ∀ p, H0 p = none → H0' p = none) : WRs S H0' G H vs ls := by
  induction h with
  | nil => exact .nil
  | cons a _ ih => exact .cons (a.back x) ih
/-- read as a list or what it is, in the whole heap -/
theorem WR.rd (h : WR S H0 G H v l) (sb : Sb G H) {d : D} (e : l.rd = .ok d) : DR S.K H v d := by
  cases l with
  | un => cases e
  | d y =>
    cases e
    exact DR.up h sb.xt
  | own xs =>
    cases e
    obtain ⟨p, us, rfl, a, r⟩ := h
    exact .lst a (r.up sb.xt)
  | fr xs =>
    cases e
    obtain ⟨p, us, rfl, _, _, a, r⟩ := h
    exact .lst a (r.up sb.xt)
  | dc ks ds => cases e
theorem L.rd_of_fz {d : D} (e : l.fz = .ok d) : l.rd = .ok d := by
  cases l <;> first | exact e | cases e
/-- frozen -/
theorem WR.fz (h : WR S H G1 H1 v l) (x : Gr S G H G1 H1) {d : D} (e : l.fz = .ok d) : ∃ G2, Gr S G H G2 H1 ∧ DR S.K G2 v d := by
  cases l with
  | un => cases e
  | d y =>
    cases e
    exact ⟨G1, x, h⟩
  | own xs => cases e
  | fr xs =>
    cases e
    obtain ⟨p, us, rfl, z, g, a, r⟩ := h
    exact ⟨_, x.frz z g a (fun ps q => by cases q), .lst upd_same (r.up (Xt.upd g))⟩
  | dc ks ds => cases e
theorem SR.up (h : SR S H0 G H sv l as) (x : Gr S G H G1 H1) : SR S H0 G1 H1 sv l as := by
  cases l with
  | un => exact h
  | d y =>
    obtain ⟨e, v, e2, r⟩ := h
    exact ⟨e, v, e2, r.up x.g⟩
  | own xs =>
    obtain ⟨p, us, e, e2, z, g, a, r⟩ := h
    exact ⟨p, us, e, e2, z, x.n p (fun q => by rw [a] at q; cases q) g, x.h.lst a, r.up x.g⟩
  | fr xs => exact h
  | dc ks ds =>
    obtain ⟨p, us, e, e2, z, g, a, l, r⟩ := h
    exact ⟨p, us, e, e2, z, x.n p (fun q => by rw [a] at q; cases q) g, x.h.dK a, l, r.up x.g⟩
theorem SRs.up {ass : List (List Addr)} (h : SRs S H0 G H σ env ass) (x : Gr S G H G1 H1) : SRs S H0 G1 H1 σ env ass := by
  induction h with
  | nil => exact .nil
  | cons a _ ih => exact .cons (a.up x) ih
theorem EnvR.up (h : EnvR S H0 G H σ env) (x : Gr S G H G1 H1) : EnvR S H0 G1 H1 σ env := by
  obtain ⟨ass, a, n⟩ := h
  exact ⟨ass, a.up x, n⟩
/-- the addresses of a slot are known -/
theorem SR.known (h : SR S H0 G H sv l as) {p : Addr} (hp : p ∈ as) : H0 p = none ∧ G p = none ∧ ∃ xs, H p = some xs := by
  cases l with
  | un =>
    have e : as = [] := h
    subst e
    cases hp
  | d y =>
    obtain ⟨rfl, _⟩ := h
    cases hp
  | own xs =>
    obtain ⟨q, us, rfl, e2, z, g, a, r⟩ := h
    have e : p = q := by simpa using hp
    subst e
    exact ⟨z, g, _, a⟩
  | fr xs => exact h.elim
  | dc ks ds =>
    obtain ⟨q, us, rfl, e2, z, g, a, l, r⟩ := h
    have e : p = q := by simpa using hp
    subst e
    exact ⟨z, g, _, a⟩
theorem SRs.known {ass : List (List Addr)} (h : SRs S H0 G H σ env ass) {p : Addr} (hp : p ∈ ass.flatten) : H0 p = none ∧ G p = none ∧ ∃ xs, H p = some xs := by
  induction h with
  | nil => cases hp
  | cons a _ ih =>
    rw [List.flatten_cons, List.mem_append] at hp
    rcases hp with hp | hp
    · exact a.known hp
    · exact ih hp
theorem SRs.get {ass : List (List Addr)} : ∀ {σ : L2.St} {env : List L} {ass : List (List Addr)} {i : Nat} {l : L}, SRs S H0 G H σ env ass → env[i]? = some l → ∃ sv as, σ[i]? = some sv ∧ ass[i]? = some as ∧ SR S H0 G H sv l as
  | _, _, _, _, _, .nil, e => by simp at e
  | _, _, _, 0, _, .cons a r, e => by simp at e; subst e; exact ⟨_, _, rfl, rfl, a⟩
  | _, _, _, i + 1, l, .cons _ r, e => by
    obtain ⟨sv, as, h1, h2, h3⟩ := SRs.get (ass := ass) (i := i) (l := l) r (by simpa using e)
    exact ⟨sv, as, by simpa using h1, by simpa using h2, h3⟩
theorem SRs.len {σ : L2.St} {env : List L} {ass : List (List Addr)} (h : SRs S H0 G H σ env ass) : σ.length = env.length ∧ ass.length = env.length := by
  induction h with
  | nil => exact ⟨rfl, rfl⟩
  | cons _ _ ih => exact ⟨by simp [ih.1], by simp [ih.2]⟩
theorem SRs.set {sv : Option V} {l : L} {as : List Addr} (x : SR S H0 G H sv l as) : ∀ {σ : L2.St} {env : List L} {ass : List (List Addr)} (i : Nat), SRs S H0 G H σ env ass → SRs S H0 G H (σ.set i sv) (env.set i l) (ass.set i as)
  | _, _, _, _, .nil => .nil
  | _, _, _, 0, .cons _ r => .cons x r
  | _, _, _, i + 1, .cons a r => .cons a (SRs.set x i r)
/-- the slots other than i, in a heap where the list at p is another: p is none of theirs -/
theorem SR.other {p : Addr} {o : HO} (h : SR S H0 G H sv l as) (hp : p ∉ as) : SR S H0 G (upd H p o) sv l as := by
  cases l with
  | un => exact h
  | d y => exact h
  | own xs =>
    obtain ⟨q, us, rfl, e2, z, g, a, r⟩ := h
    have hq : q ≠ p := fun e => hp (by simp [e])
    exact ⟨q, us, rfl, e2, z, g, by rw [upd_ne hq]; exact a, r⟩
  | fr xs => exact h
  | dc ks ds =>
    obtain ⟨q, us, rfl, e2, z, g, a, l, r⟩ := h
    have hq : q ≠ p := fun e => hp (by simp [e])
    exact ⟨q, us, rfl, e2, z, g, by rw [upd_ne hq]; exact a, l, r⟩
theorem SR.otherG {p : Addr} {o : HO} (h : SR S H0 G H sv l as) (hp : p ∉ as) (hg : G p = none) : SR S H0 (upd G p o) H sv l as := by
  cases l with
  | un => exact h
  | d y =>
    obtain ⟨e, v, e2, r⟩ := h
    exact ⟨e, v, e2, r.up (Xt.upd hg)⟩
  | own xs =>
    obtain ⟨q, us, rfl, e2, z, g, a, r⟩ := h
    have hq : q ≠ p := fun e => hp (by simp [e])
    exact ⟨q, us, rfl, e2, z, by rw [upd_ne hq]; exact g, a, r.up (Xt.upd hg)⟩
  | fr xs => exact h
  | dc ks ds =>
    obtain ⟨q, us, rfl, e2, z, g, a, l, r⟩ := h
    have hq : q ≠ p := fun e => hp (by simp [e])
    exact ⟨q, us, rfl, e2, z, by rw [upd_ne hq]; exact g, a, l, r.up (Xt.upd hg)⟩
theorem SRs.other {p : Addr} {o : HO} {ass : List (List Addr)} (h : SRs S H0 G H σ env ass) (hp : p ∉ ass.flatten) : SRs S H0 G (upd H p o) σ env ass := by
  induction h with
  | nil => exact .nil
  | cons a _ ih =>
    rw [List.flatten_cons, List.mem_append, not_or] at hp
    exact .cons (a.other hp.1) (ih hp.2)
theorem SRs.otherG {p : Addr} {o : HO} {ass : List (List Addr)} (h : SRs S H0 G H σ env ass) (hp : p ∉ ass.flatten) (hg : G p = none) : SRs S H0 (upd G p o) H σ env ass := by
  induction h with
  | nil => exact .nil
  | cons a _ ih =>
    rw [List.flatten_cons, List.mem_append, not_or] at hp
    exact .cons (a.otherG hp.1 hg) (ih hp.2)
/-- one slot's content changes with the heap at its own address -/
theorem SRs.change {p : Addr} {o : HO} {as' : List Addr} {l' : L} {sv' : Option V} : ∀ {σ : L2.St} {env : List L} {ass : List (List Addr)} (i : Nat), SRs S H0 G H σ env ass → ass.flatten.Nodup → ass[i]? = some [p] → SR S H0 G (upd H p o) sv' l' as' →
    SRs S H0 G (upd H p o) (σ.set i sv') (env.set i l') (ass.set i as')
  | _, _, _, _, .nil, _, _, _ => .nil
  | _, _, _, 0, .cons _ r, n, e, x => by
    simp at e
    subst e
    rw [List.flatten_cons, List.nodup_append] at n
    refine .cons x (r.other fun hp => n.2.2 p (by simp) p hp rfl)
  | _, _, _, i + 1, .cons (as := as) (ass := ass) a r, n, e, x => by
    rw [List.flatten_cons, List.nodup_append] at n
    have e' : ass[i]? = some [p] := by simpa using e
    refine .cons (a.other fun hp => n.2.2 p hp p (List.mem_flatten.mpr ⟨[p], List.mem_of_getElem? e', by simp⟩) rfl) (SRs.change i r n.2.1 e' x)
theorem SRs.changeG {p : Addr} {o : HO} {as' : List Addr} {l' : L} {sv' : Option V} (hg : G p = none) : ∀ {σ : L2.St} {env : List L} {ass : List (List Addr)} (i : Nat), SRs S H0 G H σ env ass → ass.flatten.Nodup → ass[i]? = some [p] → SR S H0 (upd G p o) H sv' l' as' →
    SRs S H0 (upd G p o) H (σ.set i sv') (env.set i l') (ass.set i as')
  | _, _, _, _, .nil, _, _, _ => .nil
  | _, _, _, 0, .cons _ r, n, e, x => by
    simp at e
    subst e
    rw [List.flatten_cons, List.nodup_append] at n
    refine .cons x (r.otherG (fun hp => n.2.2 p (by simp) p hp rfl) hg)
  | _, _, _, i + 1, .cons (as := as) (ass := ass) a r, n, e, x => by
    rw [List.flatten_cons, List.nodup_append] at n
    have e' : ass[i]? = some [p] := by simpa using e
    refine .cons (a.otherG (fun hp => n.2.2 p hp p (List.mem_flatten.mpr ⟨[p], List.mem_of_getElem? e', by simp⟩) rfl) hg) (SRs.changeG hg i r n.2.1 e' x)
theorem nodup_set {as : List Addr} : ∀ {ass : List (List Addr)} (i : Nat), ass.flatten.Nodup → as.Nodup → (∀ p ∈ as, p ∈ ass.flatten → ∃ bs, ass[i]? = some bs ∧ p ∈ bs) → (ass.set i as).flatten.Nodup
  | [], _, _, _, _ => by simp
  | b :: ass, 0, n, na, h => by
    rw [List.flatten_cons, List.nodup_append] at n
    show (as ++ ass.flatten).Nodup
    rw [List.nodup_append]
    refine ⟨na, n.2.1, fun p hp q hq e => ?_⟩
    subst e
    obtain ⟨bs, h1, h2⟩ := h p hp (by rw [List.flatten_cons, List.mem_append]; exact .inr hq)
    simp at h1
    subst h1
    exact n.2.2 p h2 p hq rfl
  | b :: ass, i + 1, n, na, h => by
    rw [List.flatten_cons, List.nodup_append] at n
    show (b ++ (ass.set i as).flatten).Nodup
    have key : ∀ p ∈ as, p ∈ ass.flatten → ∃ bs, ass[i]? = some bs ∧ p ∈ bs := fun p hp hq => by
      obtain ⟨bs, h1, h2⟩ := h p hp (by rw [List.flatten_cons, List.mem_append]; exact .inr hq)
      exact ⟨bs, by simpa using h1, h2⟩
    rw [List.nodup_append]
    refine ⟨n.1, nodup_set i n.2.1 na key, fun p hp q hq e => ?_⟩
    subst e
    obtain ⟨c, hc, hpc⟩ := List.mem_flatten.mp hq
    rcases List.mem_or_eq_of_mem_set hc with z | z
    · exact n.2.2 p hp p (List.mem_flatten.mpr ⟨c, z, hpc⟩) rfl
    · subst z
      obtain ⟨bs, h1, h2⟩ := h p hpc (by rw [List.flatten_cons, List.mem_append]; exact .inl hp)
      have h1' : ass[i]? = some bs := by simpa using h1
      exact n.2.2 p hp p (List.mem_flatten.mpr ⟨bs, List.mem_of_getElem? h1', h2⟩) rfl
/-- a slot gets frozen data, or nothing -/
theorem EnvR.setD (h : EnvR S H0 G H σ env) (i : Nat) {d : D} (r : DR S.K G v d) : EnvR S H0 G H (σ.set i (some v)) (env.set i (.d d)) := by
  obtain ⟨ass, a, n⟩ := h
  exact ⟨_, a.set (as := []) (l := .d d) (sv := some v) ⟨rfl, v, rfl, r⟩ i, nodup_set i n (by simp) (by simp)⟩
theorem EnvR.setU (h : EnvR S H0 G H σ env) (i : Nat) (sv : Option V) : EnvR S H0 G H (σ.set i sv) (env.set i .un) := by
  obtain ⟨ass, a, n⟩ := h
  exact ⟨_, a.set (as := []) (l := .un) (sv := sv) rfl i, nodup_set i n (by simp) (by simp)⟩
/-- a slot gets a new list -/
theorem EnvR.setN (h : EnvR S H0 G H σ env) (i : Nat) {p : Addr} {vs : List V} {xs : List D} (h0 : H0 p = none) (hg : G p = none) (hp : H p = some (.lst vs)) (r : DRs S.K G vs xs) (new : ∀ (j : Nat) (sv : Option V) (l : L) (as : List Addr), σ[j]? = some sv → env[j]? = some l → SR S H0 G H sv l as → p ∉ as) :
    EnvR S H0 G H (σ.set i (some (.ref p))) (env.set i (.own xs)) := by
  obtain ⟨ass, a, n⟩ := h
  refine ⟨_, a.set (as := [p]) (l := .own xs) (sv := some (.ref p)) ⟨p, vs, rfl, rfl, h0, hg, hp, r⟩ i, nodup_set i n (by simp) fun q hq hf => ?_⟩
  have e : q = p := by simpa using hq
  subst e
  obtain ⟨bs, hb, hqb⟩ := List.mem_flatten.mp hf
  obtain ⟨j, hj⟩ := List.getElem?_of_mem hb
  have hlt : j < env.length := by
    rw [← a.len.2]
    exact (List.getElem?_eq_some_iff.mp hj).1
  obtain ⟨sv, as, h1, h2, h3⟩ := a.get (ass := ass) (i := j) (l := env[j]) (List.getElem?_eq_getElem hlt)
  rw [hj] at h2
  cases h2
  exact absurd hqb (new j sv _ bs h1 (List.getElem?_eq_getElem hlt) h3)
theorem EnvR.len (h : EnvR S H0 G H σ env) : σ.length = env.length := by
  obtain ⟨ass, a, _⟩ := h
  exact a.len.1
theorem EnvR.get (h : EnvR S H0 G H σ env) {i : Nat} (e : env[i]? = some l) : ∃ sv as, σ[i]? = some sv ∧ SR S H0 G H sv l as := by
  obtain ⟨ass, a, _⟩ := h
  obtain ⟨sv, as, h1, _, h3⟩ := a.get (ass := ass) e
  exact ⟨sv, as, h1, h3⟩
/-- the own list at i changes -/
theorem EnvR.write (h : EnvR S H0 G H σ env) {i : Nat} {xs : List D} (e : env[i]? = some (.own xs)) :
    ∃ p vs, σ[i]? = some (some (.ref p)) ∧ H0 p = none ∧ G p = none ∧ H p = some (.lst vs) ∧ DRs S.K G vs xs ∧
      (∀ vs' xs', DRs S.K G vs' xs' → EnvR S H0 G (upd H p (.lst vs')) σ (env.set i (.own xs'))) ∧ EnvR S H0 (upd G p (.lst vs)) H σ (env.set i (.d (.list xs))) := by
  obtain ⟨ass, a, n⟩ := h
  obtain ⟨sv, as, h1, h2, p, vs, rfl, rfl, z, g, hp, r⟩ := a.get (ass := ass) e
  have eσ : σ.set i (some (.ref p)) = σ := by
    obtain ⟨hlt, e2⟩ := List.getElem?_eq_some_iff.mp h1
    rw [← e2]
    exact List.set_getElem_self hlt
  refine ⟨p, vs, h1, z, g, hp, r, fun vs' xs' r' => ?_, ?_⟩
  · have c := a.change (o := .lst vs') (sv' := some (.ref p)) (l' := .own xs') (as' := [p]) i n h2 ⟨p, vs', rfl, rfl, z, g, upd_same, r'⟩
    rw [eσ] at c
    refine ⟨_, c, nodup_set i n (by simp) fun q hq hf => ⟨[p], h2, hq⟩⟩
  · have c := a.changeG (o := .lst vs) (sv' := some (.ref p)) (l' := .d (.list xs)) (as' := []) g i n h2 ⟨rfl, .ref p, rfl, .lst upd_same (r.up (Xt.upd g))⟩
    rw [eσ] at c
    exact ⟨_, c, nodup_set i n (by simp) (by simp)⟩
/-- a slot gets a new dict -/
theorem EnvR.setK (h : EnvR S H0 G H σ env) (i : Nat) {p : Addr} {ks : List Key} {vs : List V} {ds : List D} (h0 : H0 p = none) (hg : G p = none) (hp : H p = some (.dK (ks.zip vs))) (hl : ks.length = vs.length) (r : DRs S.K G vs ds) (new : ∀ (j : Nat) (sv : Option V) (l : L) (as : List Addr), σ[j]? = some sv → env[j]? = some l → SR S H0 G H sv l as → p ∉ as) :
    EnvR S H0 G H (σ.set i (some (.ref p))) (env.set i (.dc ks ds)) := by
  obtain ⟨ass, a, n⟩ := h
  refine ⟨_, a.set (as := [p]) (l := .dc ks ds) (sv := some (.ref p)) ⟨p, vs, rfl, rfl, h0, hg, hp, hl, r⟩ i, nodup_set i n (by simp) fun q hq hf => ?_⟩
  have e : q = p := by simpa using hq
  subst e
  obtain ⟨bs, hb, hqb⟩ := List.mem_flatten.mp hf
  obtain ⟨j, hj⟩ := List.getElem?_of_mem hb
  have hlt : j < env.length := by
    rw [← a.len.2]
    exact (List.getElem?_eq_some_iff.mp hj).1
  obtain ⟨sv, as, h1, h2, h3⟩ := a.get (ass := ass) (i := j) (l := env[j]) (List.getElem?_eq_getElem hlt)
  rw [hj] at h2
  cases h2
  exact absurd hqb (new j sv _ bs h1 (List.getElem?_eq_getElem hlt) h3)
/-- the own dict at i changes -/
theorem EnvR.writeK (h : EnvR S H0 G H σ env) {i : Nat} {ks : List Key} {ds : List D} (e : env[i]? = some (.dc ks ds)) :
    ∃ p vs, σ[i]? = some (some (.ref p)) ∧ H0 p = none ∧ G p = none ∧ H p = some (.dK (ks.zip vs)) ∧ ks.length = vs.length ∧ DRs S.K G vs ds ∧
      (∀ ks' vs' ds', ks'.length = vs'.length → DRs S.K G vs' ds' → EnvR S H0 G (upd H p (.dK (ks'.zip vs'))) σ (env.set i (.dc ks' ds'))) ∧ EnvR S H0 (upd G p (.dK (ks.zip vs))) H σ (env.set i (.d (dicD ks ds))) := by
  obtain ⟨ass, a, n⟩ := h
  obtain ⟨sv, as, h1, h2, p, vs, rfl, rfl, z, g, hp, hl, r⟩ := a.get (ass := ass) e
  have eσ : σ.set i (some (.ref p)) = σ := by
    obtain ⟨hlt, e2⟩ := List.getElem?_eq_some_iff.mp h1
    rw [← e2]
    exact List.set_getElem_self hlt
  refine ⟨p, vs, h1, z, g, hp, hl, r, fun ks' vs' ds' hl' r' => ?_, ?_⟩
  · have c := a.change (o := .dK (ks'.zip vs')) (sv' := some (.ref p)) (l' := .dc ks' ds') (as' := [p]) i n h2 ⟨p, vs', rfl, rfl, z, g, upd_same, hl', r'⟩
    rw [eσ] at c
    refine ⟨_, c, nodup_set i n (by simp) fun q hq hf => ⟨[p], h2, hq⟩⟩
  · have c := a.changeG (o := .dK (ks.zip vs)) (sv' := some (.ref p)) (l' := .d (dicD ks ds)) (as' := []) g i n h2 ⟨rfl, .ref p, rfl, .dct upd_same hl (r.up (Xt.upd g))⟩
    rw [eσ] at c
    exact ⟨_, c, nodup_set i n (by simp) (by simp)⟩
end
end PD
/-! how readings go; contexts; the parts of expressions -/
namespace PD
open PySem PySem.Spec PyProof.Rows L2
section
variable (S : Sys) (E : XK)
/-- what a reading reaches -/
def EvG {α β : Type} (R : Hp → Hp → Hp → α → β → Prop) (tq : (α → Hp → Prop) → Prop) (G H : Hp) : M β → Prop
  | .stuck => True
  | .ex c => ∀ Q : α → Hp → Prop, (∀ G2 H2, Gr S G H G2 H2 → E (.ref (S.ca c)) none H2) → tq Q
  | .ok b => ∀ Q : α → Hp → Prop, (∀ a G2 H2, Gr S G H G2 H2 → R H G2 H2 a b → Q a H2) → tq Q
abbrev RB : Hp → Hp → Hp → Bool → Bool → Prop := fun _ _ _ a b => a = b
abbrev RO : Hp → Hp → Hp → Option Int → Option Int → Prop := fun _ _ _ a b => a = b
abbrev EvW (te : TE) (σ : L2.St) (G H : Hp) (r : M L) : Prop := EvG S E (WR S) (te σ H) G H r
abbrev EvB (tt : TT) (σ : L2.St) (G H : Hp) (r : M Bool) : Prop := EvG S E RB (tt σ H) G H r
abbrev EvA (ta : TA) (σ : L2.St) (G H : Hp) (r : M (List L)) : Prop := EvG S E (WRs S) (ta σ H) G H r
abbrev EvO (to : TO) (σ : L2.St) (G H : Hp) (r : M (Option Int)) : Prop := EvG S E RO (to σ H) G H r
end
/-- what a relation wants of its start -/
def Bk {α β : Type} (R : Hp → Hp → Hp → α → β → Prop) : Prop := ∀ (H H' G2 H2 : Hp) a b, (∀ p, H p = none → H' p = none) → R H G2 H2 a b → R H' G2 H2 a b
theorem bk_W (S : Sys) : Bk (WR S) := fun _ _ _ _ _ _ x h => h.back x
theorem bk_Ws (S : Sys) : Bk (WRs S) := fun _ _ _ _ _ _ x h => h.back x
theorem bk_B : Bk RB := fun _ _ _ _ _ _ _ h => h
theorem bk_O : Bk RO := fun _ _ _ _ _ _ _ h => h
section
variable {S : Sys} {E : XK} {G H : Hp} {α β γ δ : Type} {R : Hp → Hp → Hp → α → β → Prop} {R' : Hp → Hp → Hp → γ → δ → Prop}
theorem EvG.bind {tq : (α → Hp → Prop) → Prop} {k : α → Hp → (γ → Hp → Prop) → Prop} {r : M β} {g : β → M δ} (h : EvG S E R tq G H r)
    (hk : ∀ a b G2 H2, r = .ok b → Gr S G H G2 H2 → R H G2 H2 a b → ∃ G3, Gr S G H G3 H2 ∧ EvG S E (fun _ => R' H) (k a H2) G3 H2 (g b)) :
    EvG S E R' (fun Q => tq fun a H2 => k a H2 Q) G H (r.bind g) := by
  cases r with
  | stuck => exact True.intro
  | ex c => exact fun Q q => h _ q
  | ok b =>
    show EvG S E R' _ G H (g b)
    cases e : g b with
    | stuck => exact True.intro
    | ex c =>
      refine fun Q q => h _ fun a G2 H2 x ra => ?_
      obtain ⟨G3, y, ev⟩ := hk a b G2 H2 rfl x ra
      rw [e] at ev
      exact ev Q fun G4 H4 z => q G4 H4 (y.trans z)
    | ok d =>
      refine fun Q q => h _ fun a G2 H2 x ra => ?_
      obtain ⟨G3, y, ev⟩ := hk a b G2 H2 rfl x ra
      rw [e] at ev
      exact ev Q fun c G4 H4 z rc => q c G4 H4 (y.trans z) rc
theorem EvG.weak {tq : (α → Hp → Prop) → Prop} {r : M β} {H0 : Hp} (bk : Bk R) (h : EvG S E R tq G H r) (x : ∀ p, H p = none → H0 p = none) : EvG S E (fun _ => R H0) tq G H r := by
  cases r with
  | stuck => exact True.intro
  | ex c => exact h
  | ok b => exact fun Q q => h Q fun a G2 H2 y ra => q a G2 H2 y (bk _ _ _ _ _ _ x ra)
/-- at once -/
theorem EvG.now {tq : (α → Hp → Prop) → Prop} {b : β} (sb : Sb G H) (h : ∀ Q : α → Hp → Prop, (∀ a, R H G H a b → Q a H) → tq Q) : EvG S E R tq G H (.ok b) := fun Q q =>
  h Q fun a ra => q a G H (Gr.refl sb) ra
theorem EvG.stk {tq : (α → Hp → Prop) → Prop} : EvG S E R tq G H .stuck := True.intro
theorem EvG.imp {tq tq' : (α → Hp → Prop) → Prop} {r : M β} (h : EvG S E R tq G H r) (x : ∀ Q, tq Q → tq' Q) : EvG S E R tq' G H r := by
  cases r with
  | stuck => exact True.intro
  | ex c => exact fun Q q => x _ (h Q q)
  | ok b => exact fun Q q => x _ (h Q q)
/-- its result another word for the same -/
theorem EvG.map {tq : (α → Hp → Prop) → Prop} {R2 : Hp → Hp → Hp → α → δ → Prop} {r : M β} {g : β → M δ} (h : EvG S E R tq G H r)
    (hk : ∀ a b G2 H2 d, r = .ok b → g b = .ok d → Gr S G H G2 H2 → R H G2 H2 a b → ∃ G3, Gr S G H G3 H2 ∧ R2 H G3 H2 a d) (hx : ∀ b c, g b ≠ .ex c) : EvG S E R2 tq G H (r.bind g) := by
  cases r with
  | stuck => exact True.intro
  | ex c => exact h
  | ok b =>
    show EvG S E R2 _ G H (g b)
    cases e : g b with
    | stuck => exact True.intro
    | ex c => exact absurd e (hx b c)
    | ok d =>
      refine fun Q q => h Q fun a G2 H2 x ra => ?_
      obtain ⟨G3, y, r2⟩ := hk a b G2 H2 d rfl e x ra
      exact q a G3 H2 y r2
end
/-! ### contexts -/
/-- f, the def's promise: data in, data out -/
def spD (S : Sys) (n : Nat) (f : List D → M D) : Sp := fun vs H Q E => ∃ G ds, vs.length = n ∧ Sb G H ∧ LamX.Tabs S.T H ∧ DRs S.K G vs ds ∧ match f ds with
  | .stuck => False
  | .ex c => ∀ G' H', Gr S G H G' H' → E (.ref (S.ca c)) none H'
  | .ok d => ∀ v G' H', Gr S G H G' H' → DR S.K G' v d → Q v H'
structure FnAt (S : Sys) (k : Nat) (x : Str) (n : Nat) (f : List D → M D) : Prop where
  ex : ∃ fa fd ps, S.mg x = some (.ref fa) ∧ ps.length = n ∧ Binds S.K fd ps [] ∧ PySem.W.keepIn S.K (.ref fa) = true ∧ FnOk S.P S.w S.K S.mg S.base (L2N.CX S.P S.w) k fa fd ps (spD S n f)
structure FnE where
  x : Str
  n : Nat
  f : List D → M D
/-- what a def's text is read by: its names, its functions, the constants -/
structure CC where
  N : List Str
  fns : List FnE
  con : List (Str × D)
structure SC where
  sc : Scope
  fn : Str → Bool
  lam : Bool
/-- where lambdas may be made: the code object's table is known -/
def LamAt (S : Sys) (X : Cx) : Prop := ∃ c P, X.env.code = .ref c ∧ LamX.TabB X.base X.mg c P ∧ (P, X.env.qual ++ ("<lambda>" : Str)) ∈ S.T ∧ ∀ p ∈ S.T, p.1 = P → p.2 = X.env.qual ++ ("<lambda>" : Str)
def bltNames : List Str := ["len", "range", "isinstance", "int", "str", "bool", "list", "tuple", "sum", "all", "any", "max", "min", "sorted", "set", "zip", "enumerate", "abs", "dict"]
structure CtxOk (S : Sys) (k : Nat) (E : XK) (cc : CC) (sc : SC) (X : Cx) : Prop where
  P : X.prog = S.P
  w : X.w = S.w
  K : X.K = S.K
  mg : X.mg = S.mg
  base : X.base = S.base
  N : X.N = cc.N
  nd : cc.N.Nodup
  calm : X.calm = true
  scp : X.env.scope = sc.sc
  fn : X.fn = sc.fn
  room : Room k X.A
  pass : Passes (L2N.CX S.P S.w) X E
  lam : sc.lam = true → LamAt S X
structure CcOk (S : Sys) (k : Nat) (cc : CC) : Prop where
  fns : ∀ e ∈ cc.fns, FnAt S k e.x e.n e.f
  con : ∀ e ∈ cc.con, ∃ v u, S.mg e.1 = some u ∧ RelV v u ∧ ∀ G, DR S.K G v e.2
  blt : ∀ x ∈ bltNames, (∃ e ∈ cc.fns, e.x = x) ∨ S.mg x = none
abbrev EF := List L → M L
abbrev TF := List L → M Bool
abbrev AF := List L → M (List L)
abbrev OF := List L → M (Option Int)
/-- the states that a reading starts in -/
structure At (S : Sys) (H0 G H : Hp) (σ : L2.St) (env : List L) : Prop where
  sb : Sb G H
  tb : LamX.Tabs S.T H
  env : EnvR S H0 G H σ env
theorem At.up {S : Sys} {H0 G H G1 H1 : Hp} {σ : L2.St} {env : List L} (a : At S H0 G H σ env) (x : Gr S G H G1 H1) : At S H0 G1 H1 σ env := ⟨x.gh, x.t a.tb, a.env.up x⟩
section
variable (S : Sys) (k : Nat) (E : XK) (cc : CC) (sc : SC)
def CE (e : Expr) (f : EF) : Prop := ∃ t : TE, (∀ X, CtxOk S k E cc sc X → PE X e t) ∧ ∀ H0 G H σ env, At S H0 G H σ env → EvW S E t σ G H (f env)
def CT (e : Expr) (f : TF) : Prop := ∃ t : TT, (∀ X, CtxOk S k E cc sc X → PT X e t) ∧ ∀ H0 G H σ env, At S H0 G H σ env → EvB S E t σ G H (f env)
def CA (es : List Expr) (f : AF) : Prop := ∃ t : TA, (∀ X, CtxOk S k E cc sc X → PA X es t) ∧ ∀ H0 G H σ env, At S H0 G H σ env → EvA S E t σ G H (f env)
def CO (e : Option Expr) (f : OF) : Prop := ∃ t : TO, (∀ X, CtxOk S k E cc sc X → PO X e t) ∧ ∀ H0 G H σ env, At S H0 G H σ env → EvO S E t σ G H (f env)
end
/-! ### names and constants -/
def eC (d : D) : EF := fun _ => .ok (.d d)
def eVar (i : Nat) : EF := fun env => match env[i]? with
  | none => .stuck
  | some .un => .stuck
  | some l => .ok l
section
variable {S : Sys} {k : Nat} {E : XK} {cc : CC} {sc : SC}
theorem ce_c {e : Expr} {v : V} {d : D} (h : ∀ X, CtxOk S k E cc sc X → PE X e (tC v)) (r : ∀ G, DR S.K G v d) : CE S k E cc sc e (eC d) :=
  ⟨_, h, fun H0 G H σ env a => EvG.now a.sb fun Q q => q v (r G)⟩
theorem ce_var {x : Str} {i : Nat} {pos : Pos} (hi : cc.N[i]? = some x) (hv : Vis sc.sc x) (hd : (x == ("__debug__" : Str)) = false) (hcd : (x == ("__classdict__" : Str)) = false) : CE S k E cc sc (.Name x pos) (eVar i) := by
  refine ⟨tVar i, fun X c => pe_var (by rw [c.N]; exact hi) (by rw [c.scp]; exact hv) hd hcd, fun H0 G H σ env a => ?_⟩
  unfold eVar
  cases e : env[i]? with
  | none => exact EvG.stk
  | some l =>
    obtain ⟨sv, as, h1, h2⟩ := a.env.get e
    cases l with
    | un => exact EvG.stk
    | d x =>
      obtain ⟨_, v, rfl, r⟩ := h2
      exact EvG.now a.sb fun Q q => ⟨v, h1, q v r⟩
    | own xs =>
      obtain ⟨p, vs, _, rfl, _, _, hp, r⟩ := h2
      exact EvG.now a.sb fun Q q => ⟨_, h1, q _ ⟨p, vs, rfl, hp, r⟩⟩
    | fr xs => exact h2.elim
    | dc ks ds =>
      obtain ⟨p, vs, _, rfl, _, _, hp, hl, r⟩ := h2
      exact EvG.now a.sb fun Q q => ⟨_, h1, q _ ⟨p, vs, rfl, hp, hl, r⟩⟩
/-! ### two expressions and an operation -/
def eBin (op : L → L → M L) (f g : EF) : EF := fun env => (f env).bind fun a => (g env).bind fun b => op a b
def eUn (op : L → M L) (f : EF) : EF := fun env => (f env).bind op
/-- an operation by values -/
def OpS (S : Sys) (E : XK) (r : R2) (op : L → L → M L) : Prop := ∀ (HA HB G H : Hp) x y a b, Sb G H → WR S HA G H x a → WR S HB G H y b → EvG S E (WR S) (r x y H) G H (op a b)
theorem ce_op {r : R2} {op : L → L → M L} {a b e : Expr} {f g : EF} (he : ∀ X, CtxOk S k E cc sc X → ∀ ta tb, PE X a ta → PE X b tb → PE X e (tOp r ta tb)) (ho : OpS S E r op) (ha : CE S k E cc sc a f) (hb : CE S k E cc sc b g) :
    CE S k E cc sc e (eBin op f g) := by
  obtain ⟨ta, pa, va⟩ := ha
  obtain ⟨tb, pb, vb⟩ := hb
  refine ⟨tOp r ta tb, fun X c => he X c ta tb (pa X c) (pb X c), fun H0 G H σ env at0 => ?_⟩
  refine EvG.bind (tq := ta σ H) (k := fun x H1 Q => tb σ H1 fun y H2 => r x y H2 Q) (va H0 G H σ env at0) fun x l G2 H2 _ x2 r2 => ⟨G2, x2, ?_⟩
  refine EvG.bind (tq := tb σ H2) (k := fun y H2 Q => r x y H2 Q) (vb H0 G2 H2 σ env (at0.up x2)) fun y l2 G3 H3 _ x3 r3 => ⟨G3, x3, ?_⟩
  exact (ho _ _ G3 H3 x y l l2 x3.gh (r2.up x3) r3).weak (bk_W S) fun p h => x2.dom p (x3.dom p h)
def UnS (S : Sys) (E : XK) (r : V → Hp → VK → Prop) (op : L → M L) : Prop := ∀ (HA G H : Hp) x a, Sb G H → WR S HA G H x a → EvG S E (WR S) (r x H) G H (op a)
theorem ce_un {r : V → Hp → VK → Prop} {op : L → M L} {a e : Expr} {f : EF} (he : ∀ X, CtxOk S k E cc sc X → ∀ ta, PE X a ta → PE X e (tUn r ta)) (ho : UnS S E r op) (ha : CE S k E cc sc a f) : CE S k E cc sc e (eUn op f) := by
  obtain ⟨ta, pa, va⟩ := ha
  refine ⟨tUn r ta, fun X c => he X c ta (pa X c), fun H0 G H σ env at0 => ?_⟩
  exact EvG.bind (tq := ta σ H) (k := fun x H1 Q => r x H1 Q) (va H0 G H σ env at0) fun x l G2 H2 _ x2 r2 => ⟨G2, x2, (ho _ G2 H2 x l x2.gh r2).weak (bk_W S) x2.dom⟩
/-! ### arguments -/
def aNil : AF := fun _ => .ok []
def aCons (f : EF) (g : AF) : AF := fun env => (f env).bind fun a => (g env).bind fun b => .ok (a :: b)
def notStar : Expr → Bool
  | .Starred _ _ => false
  | _ => true
theorem star_cons {e : Expr} {es : List Expr} {env : Env} (h : notStar e = true) : starEach (e :: es) env = (false, eval e env) :: starEach es env := by
  cases e <;> first | rfl | cases h
theorem ca_nil : CA S k E cc sc [] aNil := ⟨tNil, fun X c => pa_nil, fun H0 G H σ env a => EvG.now a.sb fun Q q => q _ .nil⟩
theorem ca_cons {e : Expr} {es : List Expr} {f : EF} {g : AF} (hs : notStar e = true) (ha : CE S k E cc sc e f) (hb : CA S k E cc sc es g) : CA S k E cc sc (e :: es) (aCons f g) := by
  obtain ⟨ta, pa, va⟩ := ha
  obtain ⟨tb, pb, vb⟩ := hb
  refine ⟨tCons ta tb, fun X c => pa_cons (pa X c) (pb X c) (star_cons hs), fun H0 G H σ env at0 => ?_⟩
  refine EvG.bind (tq := ta σ H) (k := fun x H1 Q => tb σ H1 fun xs H2 => Q (x :: xs) H2) (va H0 G H σ env at0) fun x l G2 H2 _ x2 r2 => ⟨G2, x2, ?_⟩
  refine EvG.bind (tq := tb σ H2) (k := fun xs H2 Q => Q (x :: xs) H2) (vb H0 G2 H2 σ env (at0.up x2)) fun y l2 G3 H3 _ x3 r3 => ⟨G3, x3, ?_⟩
  exact EvG.now x3.gh fun Q q => q _ (.cons (r2.up x3) (r3.back x2.dom))
end
end PD
/-! operations on data -/
namespace PD
open PySem PySem.Spec PyProof.Rows L2
def cap : Nat := 100000
theorem cap_le {n : Nat} (h : n ≤ cap) : n ≤ sizeLine := Nat.le_trans h (by decide)
theorem cap_lt {n : Nat} (h : n ≤ cap) : n < sizeLine := Nat.lt_of_le_of_lt h (by decide)
section
variable {K : Frg} {G H : Hp} {v : V}
theorem DR.toInt {i : Int} (h : DR K G v (.int i)) : v = .int i := by cases h; rfl
theorem DR.toBl {i : Bool} (h : DR K G v (.bool i)) : v = .bl i := by cases h; rfl
theorem DR.toStr {i : Str} (h : DR K G v (.str i)) : v = .str i := by cases h; rfl
theorem DR.toNon (h : DR K G v .none) : v = .non := by cases h; rfl
theorem DR.toTup {ds : List D} (h : DR K G v (.tuple ds)) : ∃ a vs, v = .ref a ∧ SqT K G a vs ∧ DRs K G vs ds := by cases h with | tup a b => exact ⟨_, _, rfl, a, b⟩
theorem DR.toLst {ds : List D} (h : DR K G v (.list ds)) : ∃ a vs, v = .ref a ∧ G a = some (.lst vs) ∧ DRs K G vs ds := by cases h with | lst a b => exact ⟨_, _, rfl, a, b⟩
theorem DR.isNon {d : D} (h : DR K G v d) : decide (v = .non) = (match d with | .none => true | _ => false) := by
  cases h <;> simp
end
/-- the script's list is a list -/
def unS : D → D
  | .dict [(.none, .list xs)] => .list xs
  | d => d
mutual
theorem DR.dp {K : Frg} {H : Hp} : ∀ (d : D) (v : V), DR K H v d → d.canLay0 = true → Dp K H v d
  | d, v, h, p => by
    cases h with
    | non => exact .non
    | bl b => exact .bl b
    | int i => exact .int i
    | str y => exact .str y
    | lst e r => exact .lst (SqL.of e) (DRs.dp _ _ r (by simpa [PyData.canLay0] using p))
    | tup e r => exact .tup e (DRs.dp _ _ r (by simpa [PyData.canLay0] using p))
    | scr e => simp [PyData.canLay0] at p
    | dct e l r => simp [PyData.canLay0] at p
termination_by d => sizeOf d
theorem DRs.dp {K : Frg} {H : Hp} : ∀ (ds : List D) (vs : List V), DRs K H vs ds → PyData.canLayAll0 ds = true → DpAll K H vs ds
  | ds, vs, h, p => by
    cases h with
    | nil => exact .nil
    | cons a r =>
      have p' := p
      simp only [PyData.canLayAll0, Bool.and_eq_true] at p'
      exact .cons (DR.dp _ _ a p'.1) (DRs.dp _ _ r p'.2)
termination_by ds => sizeOf ds
end
theorem dp_ints {K : Frg} {H : Hp} : ∀ ns : List Int, DpAll K H (ns.map V.int) (ns.map PyData.int)
  | [] => .nil
  | n :: ns => .cons (.int n) (dp_ints ns)
theorem DR.dpU {K : Frg} {H : Hp} {v : V} {d : D} (h : DR K H v d) (p : SeqAt.shaped (unS d) = true) : Dp K H v (unS d) := by
  have q := SeqAt.canLay_of_shaped p
  cases h with
  | scr e => exact .lst e (dp_ints _)
  | non => exact .non
  | bl b => exact .bl b
  | int i => exact .int i
  | str y => exact .str y
  | lst e r => exact DR.dp _ _ (.lst e r) q
  | tup e r => exact DR.dp _ _ (.tup e r) q
  | dct e l r => exact absurd (show PyData.canLay0 (.dict _) = true from q) (by simp [PyData.canLay0])
/-! ### the operations -/
def int2 (f : Int → Int → M L) : L → L → M L
  | .d (.int i), .d (.int j) => f i j
  | _, _ => .stuck
def okI (i : Int) : M L := .ok (.d (.int i))
def okB (b : Bool) : M L := .ok (.d (.bool b))
def opCat : M D → M D → M L
  | .ok (.list xs), .ok (.list ys) => if xs.length + ys.length ≤ cap then .ok (.fr (xs ++ ys)) else .stuck
  | _, _ => .stuck
def opAdd : L → L → M L
  | .d (.int i), .d (.int j) => okI (i + j)
  | .d (.str i), .d (.str j) => if i.length + j.length ≤ cap then .ok (.d (.str (i ++ j))) else .stuck
  | .d (.tuple xs), .d (.tuple ys) => if xs.length + ys.length ≤ cap then .ok (.d (.tuple (xs ++ ys))) else .stuck
  | a, b => opCat a.rd b.rd
def opSub : L → L → M L := int2 fun i j => okI (i - j)
def wideB : Int := 2 ^ 500
def small (i : Int) : Bool := decide (-(2 ^ 64) < i) && decide (i < 2 ^ 64)
def mid (i : Int) : Bool := decide (i.natAbs < 2 ^ 500)
def opMulI (i j : Int) : M L := if (small i || small j || (mid i && mid j)) = true then okI (i * j) else .stuck
def opRep : M D → Int → M L
  | .ok (.list xs), k => if -(2 ^ 63) ≤ k ∧ k < 2 ^ 63 ∧ xs.length * k.toNat ≤ cap then .ok (.fr (List.replicate k.toNat xs).flatten) else .stuck
  | _, _ => .stuck
def opMul : L → L → M L
  | .d (.int i), .d (.int j) => opMulI i j
  | a, .d (.int k) => opRep a.rd k
  | _, _ => .stuck
def opDiv : L → L → M L := int2 fun i j => if 0 < j ∧ mid j = true then okI (i / j) else .stuck
def opMod : L → L → M L := int2 fun i j => if 0 < j then okI (i % j) else .stuck
def opPow : L → L → M L := int2 fun i j => if 0 ≤ j ∧ j ≤ 1000 ∧ i.natAbs < 2 ^ 64 then okI (i ^ j.toNat) else .stuck
def opEq2 (neg : Bool) : M D → M D → M L
  | .ok x, .ok y => if SeqAt.shaped (unS x) = true ∧ SeqAt.shaped (unS y) = true then okB (if neg then !PyData.eqv (unS x) (unS y) else PyData.eqv (unS x) (unS y)) else .stuck
  | _, _ => .stuck
def opEq (neg : Bool) (a b : L) : M L := opEq2 neg a.rd b.rd
/-- the ints of a row -/
def intsOf : List D → Option (List Int)
  | [] => some []
  | .int i :: r => (intsOf r).map (i :: ·)
  | _ :: _ => none
def boolsOf : List D → Option (List Bool)
  | [] => some []
  | .bool i :: r => (boolsOf r).map (i :: ·)
  | _ :: _ => none
theorem intsOf_eq : ∀ {ds : List D} {ns : List Int}, intsOf ds = some ns → ds = ns.map PyData.int
  | [], ns, h => by cases h; rfl
  | d :: r, ns, h => by
    cases d <;> first | (cases h; done) | skip
    rename_i i
    have h' : (intsOf r).map (i :: ·) = some ns := h
    cases e : intsOf r with
    | none => rw [e] at h'; cases h'
    | some ms =>
      rw [e] at h'
      cases h'
      rw [intsOf_eq e]
      rfl
theorem boolsOf_eq : ∀ {ds : List D} {ns : List Bool}, boolsOf ds = some ns → ds = ns.map PyData.bool
  | [], ns, h => by cases h; rfl
  | d :: r, ns, h => by
    cases d <;> first | (cases h; done) | skip
    rename_i i
    have h' : (boolsOf r).map (i :: ·) = some ns := h
    cases e : boolsOf r with
    | none => rw [e] at h'; cases h'
    | some ms =>
      rw [e] at h'
      cases h'
      rw [boolsOf_eq e]
      rfl
def opLt : L → L → M L
  | .d (.int i), .d (.int j) => okB (decide (i < j))
  | .d (.tuple xs), .d (.tuple ys) => match intsOf xs, intsOf ys with
    | some ns, some ms => okB (HT.lexLt ns ms)
    | _, _ => .stuck
  | _, _ => .stuck
def opLe : L → L → M L
  | .d (.int i), .d (.int j) => okB (decide (i ≤ j))
  | .d (.tuple xs), .d (.tuple ys) => match intsOf xs, intsOf ys with
    | some ns, some ms => okB (Ob.lexAt (fun j => decide (ns.getD j 0 = ms.getD j 0)) (fun j => decide (ns.getD j 0 ≤ ms.getD j 0)) (decide (ns.length ≤ ms.length)) 0 (min ns.length ms.length))
    | _, _ => .stuck
  | _, _ => .stuck
def opGt : L → L → M L := int2 fun i j => okB (decide (j < i))
def opGe : L → L → M L := int2 fun i j => okB (decide (j ≤ i))
def flatD : D → Bool
  | .none | .bool _ | .int _ | .str _ => true
  | _ => false
def opIn2 (neg : Bool) : M D → M D → M L
  | .ok x, .ok (.list ys) => if SeqAt.shaped x = true ∧ SeqAt.shaped (.list ys) = true then okB (if neg then !ys.any fun z => PyData.eqv z x else ys.any fun z => PyData.eqv z x) else .stuck
  | .ok x, .ok (.tuple ys) => if flatD x = true ∧ ys.all flatD = true then okB (if neg then !ys.any fun z => PyData.eqv z x else ys.any fun z => PyData.eqv z x) else .stuck
  | _, _ => .stuck
def opIn (neg : Bool) (a b : L) : M L := opIn2 neg a.rd b.rd
def opIsN (neg : Bool) : L → M L
  | .d .none => okB (!neg)
  | .un => .stuck
  | _ => okB neg
def bool2 (f : Bool → Bool → M L) : L → L → M L
  | .d (.bool a), .d (.bool b) => f a b
  | _, _ => .stuck
def opIsB (neg : Bool) : L → L → M L := bool2 fun a b => okB (if neg then !decide (a = b) else decide (a = b))
section
variable {S : Sys} {E : XK}
theorem okI_now {G H : Hp} {i : Int} (sb : Sb G H) {tq : (V → Hp → Prop) → Prop} (h : ∀ Q : V → Hp → Prop, Q (.int i) H → tq Q) : EvG S E (WR S) tq G H (okI i) := EvG.now sb fun Q q => h Q (q _ (.int i))
theorem okB_now {G H : Hp} {i : Bool} (sb : Sb G H) {tq : (V → Hp → Prop) → Prop} (h : ∀ Q : V → Hp → Prop, Q (.bl i) H → tq Q) : EvG S E (WR S) tq G H (okB i) := EvG.now sb fun Q q => h Q (q _ (.bl i))
/-- a new list -/
theorem ev_newL {G H : Hp} {vs : List V} {xs : List D} (sb : Sb G H) (r : DRs S.K G vs xs) {tq : (V → Hp → Prop) → Prop} (h : ∀ Q : V → Hp → Prop, (∀ p, H p = none → Q (.ref p) (upd H p (.lst vs))) → tq Q) : EvG S E (WR S) tq G H (.ok (.fr xs)) := fun Q q =>
  h Q fun p hp => q _ G _ (Gr.new sb hp) ⟨p, vs, rfl, hp, sb.none hp, upd_same, r⟩
theorem ev_newT {G H : Hp} {vs : List V} {xs : List D} (sb : Sb G H) (r : DRs S.K G vs xs) {tq : (V → Hp → Prop) → Prop} (h : ∀ Q : V → Hp → Prop, (∀ p, H p = none → Q (.ref p) (upd H p (.tup vs))) → tq Q) : EvG S E (WR S) tq G H (.ok (.d (.tuple xs))) := fun Q q =>
  h Q fun p hp => q _ _ _ (Gr.newF sb hp fun ps z => by cases z) (.tup (SqT.of upd_same) (r.up (Xt.upd (sb.none hp))))
theorem int2_ok {r : R2} {f : Int → Int → M L} (h : ∀ (G H : Hp) i j, Sb G H → EvG S E (WR S) (r (.int i) (.int j) H) G H (f i j)) : OpS S E r (int2 f) := fun HA HB G H x y a b sb ra rb => by
  unfold int2
  split
  · rename_i i j
    rw [DR.toInt ra, DR.toInt rb]
    exact h G H i j sb
  · exact EvG.stk
def rAdd (K : Frg) : R2 := fun x y H Q => rI0 (fun i j => .int (i + j)) x y H Q ∨ (∃ i j, x = .str i ∧ y = .str j ∧ i.length + j.length ≤ sizeLine ∧ Q (.str (i ++ j)) H) ∨ rCatA K x y H Q ∨ rCat x y H Q
theorem or_add {X : Cx} : OpR X (binaryOp .Add) (rAdd X.K) := op_add.or (op_add_str.or (op_catA.or op_cat))
theorem rd_lst {HA G H : Hp} {x : V} {a : L} {xs : List D} (sb : Sb G H) (ra : WR S HA G H x a) (e : a.rd = .ok (.list xs)) : ∃ p vs, x = .ref p ∧ H p = some (.lst vs) ∧ DRs S.K G vs xs := by
  cases a with
  | un => cases e
  | d y =>
    cases e
    obtain ⟨p, vs, rfl, hp, r⟩ := DR.toLst ra
    exact ⟨p, vs, rfl, sb.xt.lst hp, r⟩
  | own ys =>
    cases e
    exact ra
  | fr ys =>
    cases e
    obtain ⟨p, vs, rfl, _, _, hp, r⟩ := ra
    exact ⟨p, vs, rfl, hp, r⟩
  | dc ks ds => cases e
theorem os_add : OpS S E (rAdd S.K) opAdd := fun HA HB G H x y a b sb ra rb => by
  unfold opAdd
  split
  · rename_i i j
    rw [DR.toInt ra, DR.toInt rb]
    exact okI_now sb fun Q q => .inl ⟨i, j, rfl, rfl, q⟩
  · rename_i i j
    split
    · rename_i h
      rw [DR.toStr ra, DR.toStr rb]
      exact EvG.now sb fun Q q => .inr (.inl ⟨i, j, rfl, rfl, cap_le h, q _ (.str _)⟩)
    · exact EvG.stk
  · rename_i xs ys
    split
    · rename_i h
      obtain ⟨p, vs, rfl, h1, r1⟩ := DR.toTup ra
      obtain ⟨p2, vs2, rfl, h2, r2⟩ := DR.toTup rb
      have hl : vs.length + vs2.length ≤ sizeLine := by rw [r1.length, r2.length]; exact cap_le h
      by_cases e1 : vs = []
      · subst e1
        cases r1
        exact EvG.now sb fun Q q => .inr (.inr (.inl ⟨p, p2, _, _, rfl, rfl, sb.xt.sqT h1, sb.xt.sqT h2, hl, fun _ => q _ (.tup h2 r2), fun z => absurd rfl z, fun z => absurd rfl z⟩))
      · by_cases e2 : vs2 = []
        · subst e2
          cases r2
          rw [List.append_nil]
          exact EvG.now sb fun Q q => .inr (.inr (.inl ⟨p, p2, _, _, rfl, rfl, sb.xt.sqT h1, sb.xt.sqT h2, hl, fun z => absurd z e1, fun _ _ => q _ (.tup h1 r1), fun _ z => absurd rfl z⟩))
        · exact ev_newT sb (r1.append r2) fun Q q => .inr (.inr (.inl ⟨p, p2, _, _, rfl, rfl, sb.xt.sqT h1, sb.xt.sqT h2, hl, fun z => absurd z e1, fun _ z => absurd z e2, fun _ _ => q⟩))
    · exact EvG.stk
  · unfold opCat
    split
    · rename_i xs ys e1 e2
      split
      · rename_i h
        obtain ⟨p, vs, rfl, h1, r1⟩ := rd_lst sb ra e1
        obtain ⟨p2, vs2, rfl, h2, r2⟩ := rd_lst sb rb e2
        have hl : vs.length + vs2.length ≤ sizeLine := by rw [r1.length, r2.length]; exact cap_le h
        exact ev_newL sb (r1.append r2) fun Q q => .inr (.inr (.inr ⟨p, p2, _, _, rfl, rfl, h1, h2, hl, q⟩))
      · exact EvG.stk
    · exact EvG.stk
theorem os_sub : OpS S E (rI0 fun i j => .int (i - j)) opSub := int2_ok fun G H i j sb => okI_now sb fun Q q => ⟨i, j, rfl, rfl, q⟩
def rMul : R2 := fun x y H Q => rI CMul (fun i j => .int (i * j)) x y H Q ∨ rI CMulW (fun i j => .int (i * j)) x y H Q ∨ rRep x y H Q
theorem or_mul {X : Cx} : OpR X (binaryOp .Mult) rMul := op_mul.or (op_mulW.or op_rep)
theorem small_iff {i : Int} (h : small i = true) : -(2 ^ 64) < i ∧ i < 2 ^ 64 := by
  unfold small at h
  rw [Bool.and_eq_true] at h
  exact ⟨of_decide_eq_true h.1, of_decide_eq_true h.2⟩
theorem os_mul : OpS S E rMul opMul := fun HA HB G H x y a b sb ra rb => by
  unfold opMul
  split
  · rename_i i j
    rw [DR.toInt ra, DR.toInt rb]
    unfold opMulI
    split
    · rename_i h
      rw [Bool.or_eq_true, Bool.or_eq_true, Bool.and_eq_true] at h
      rcases h with (h | h) | ⟨h1, h2⟩
      · exact okI_now sb fun Q q => .inl ⟨i, j, rfl, rfl, .inl (small_iff h), q⟩
      · exact okI_now sb fun Q q => .inl ⟨i, j, rfl, rfl, .inr (small_iff h), q⟩
      · exact okI_now sb fun Q q => .inr (.inl ⟨i, j, rfl, rfl, wide_mul (a := 500) (b := 500) (of_decide_eq_true h1) (of_decide_eq_true h2) (by decide) (by decide) (by decide), q⟩)
    · exact EvG.stk
  · rename_i k _
    rw [DR.toInt rb]
    cases e1 : a.rd with
    | stuck => exact EvG.stk
    | ex c => exact EvG.stk
    | ok dd =>
      cases dd <;> first | exact EvG.stk | skip
      rename_i xs
      show EvG S E (WR S) _ G H (if -(2 ^ 63) ≤ k ∧ k < 2 ^ 63 ∧ xs.length * k.toNat ≤ cap then .ok (.fr (List.replicate k.toNat xs).flatten) else .stuck)
      split
      · rename_i h
        obtain ⟨p, vs, rfl, h1, r1⟩ := rd_lst sb ra e1
        refine ev_newL sb (r1.rep k.toNat) fun Q q => .inr (.inr ⟨p, k, vs, rfl, rfl, h1, h.1, h.2.1, ?_, q⟩)
        rw [r1.length]
        exact cap_le h.2.2
      · exact EvG.stk
  · exact EvG.stk
theorem os_div : OpS S E (rI CDivW fun i j => .int (i / j)) opDiv := int2_ok fun G H i j sb => by
  split
  · rename_i h
    exact okI_now sb fun Q q => ⟨i, j, rfl, rfl, wide_div (b := 500) h.1 (of_decide_eq_true h.2) (by decide) (by decide), q⟩
  · exact EvG.stk
theorem os_mod : OpS S E (rI (fun _ j => 0 < j) fun i j => .int (i % j)) opMod := int2_ok fun G H i j sb => by
  split
  · rename_i h
    exact okI_now sb fun Q q => ⟨i, j, rfl, rfl, h, q⟩
  · exact EvG.stk
theorem os_pow : OpS S E (rI CPow fun i j => .int (i ^ j.toNat)) opPow := int2_ok fun G H i j sb => by
  split
  · rename_i h
    exact okI_now sb fun Q q => ⟨i, j, rfl, rfl, ⟨h.1, by omega, h.2.2⟩, q⟩
  · exact EvG.stk
theorem os_eq : OpS S E (rEqD S.K) (opEq false) := fun HA HB G H x y a b sb ra rb => by
  unfold opEq opEq2
  split
  · rename_i d e h1 h2
    split
    · rename_i h
      exact okB_now sb fun Q q => ⟨_, _, DR.dpU (ra.rd sb h1) h.1, DR.dpU (rb.rd sb h2) h.2, h.1, h.2, q⟩
    · exact EvG.stk
  · exact EvG.stk
theorem os_ne : OpS S E (rNeD S.K) (opEq true) := fun HA HB G H x y a b sb ra rb => by
  unfold opEq opEq2
  split
  · rename_i d e h1 h2
    split
    · rename_i h
      exact okB_now sb fun Q q => ⟨_, _, DR.dpU (ra.rd sb h1) h.1, DR.dpU (rb.rd sb h2) h.2, h.1, h.2, q⟩
    · exact EvG.stk
  · exact EvG.stk
def rLt (K : Frg) : R2 := fun x y H Q => rI0 (fun i j => .bl (decide (i < j))) x y H Q ∨ rLtT K x y H Q
def rLe (K : Frg) : R2 := fun x y H Q => rI0 (fun i j => .bl (decide (i ≤ j))) x y H Q ∨ rLeT K x y H Q
theorem ints_sq {G H : Hp} {x : V} {xs : List D} {ns : List Int} (sb : Sb G H) (r : DR S.K G x (.tuple xs)) (e : intsOf xs = some ns) : ∃ a, x = .ref a ∧ SqT S.K H a (ns.map V.int) := by
  obtain ⟨a, vs, rfl, h1, r1⟩ := DR.toTup r
  rw [intsOf_eq e] at r1
  rw [r1.ints] at h1
  exact ⟨a, rfl, sb.xt.sqT h1⟩
theorem os_lt : OpS S E (rLt S.K) opLt := fun HA HB G H x y a b sb ra rb => by
  unfold opLt
  split
  · rename_i i j
    rw [DR.toInt ra, DR.toInt rb]
    exact okB_now sb fun Q q => .inl ⟨i, j, rfl, rfl, q⟩
  · split
    · rename_i xs ys ns ms e1 e2
      obtain ⟨p, rfl, h1⟩ := ints_sq sb ra e1
      obtain ⟨p2, rfl, h2⟩ := ints_sq sb rb e2
      exact okB_now sb fun Q q => .inr ⟨p, p2, ns, ms, rfl, rfl, h1, h2, q⟩
    · exact EvG.stk
  · exact EvG.stk
theorem os_le : OpS S E (rLe S.K) opLe := fun HA HB G H x y a b sb ra rb => by
  unfold opLe
  split
  · rename_i i j
    rw [DR.toInt ra, DR.toInt rb]
    exact okB_now sb fun Q q => .inl ⟨i, j, rfl, rfl, q⟩
  · split
    · rename_i xs ys ns ms e1 e2
      obtain ⟨p, rfl, h1⟩ := ints_sq sb ra e1
      obtain ⟨p2, rfl, h2⟩ := ints_sq sb rb e2
      exact okB_now sb fun Q q => .inr ⟨p, p2, ns, ms, rfl, rfl, h1, h2, q⟩
    · exact EvG.stk
  · exact EvG.stk
theorem os_gt : OpS S E (rI0 fun i j => .bl (decide (j < i))) opGt := int2_ok fun G H i j sb => okB_now sb fun Q q => ⟨i, j, rfl, rfl, q⟩
theorem os_ge : OpS S E (rI0 fun i j => .bl (decide (j ≤ i))) opGe := int2_ok fun G H i j sb => okB_now sb fun Q q => ⟨i, j, rfl, rfl, q⟩
theorem DR.flat {G : Hp} {v : V} {d : D} (h : DR S.K G v d) (f : flatD d = true) : flatV v = true := by
  cases h <;> first | rfl | cases f
theorem eqV_eqv {G : Hp} {v w : V} {d e : D} (h : DR S.K G v d) (h2 : DR S.K G w e) (f : flatD d = true) (f2 : flatD e = true) : eqV v w = PyData.eqv d e := by
  cases h <;> cases h2 <;> first | rfl | (cases f; done) | (cases f2; done) | simp [eqV, PyData.eqv]
theorem DRs.flat {G : Hp} : ∀ {vs : List V} {ds : List D}, DRs S.K G vs ds → ds.all flatD = true → vs.all flatV = true
  | _, _, .nil, _ => rfl
  | _, _, .cons a r, h => by
    rw [List.all_cons, Bool.and_eq_true] at h ⊢
    exact ⟨a.flat h.1, DRs.flat r h.2⟩
theorem inV_any {G : Hp} {v : V} {d : D} (h : DR S.K G v d) (f : flatD d = true) : ∀ {vs : List V} {ds : List D}, DRs S.K G vs ds → ds.all flatD = true → inV v vs = ds.any fun z => PyData.eqv z d
  | _, _, .nil, _ => rfl
  | _, _, .cons a r, g => by
    rw [List.all_cons, Bool.and_eq_true] at g
    show (eqV _ v || inV v _) = (_ || _)
    rw [eqV_eqv a h g.1 f, inV_any h f r g.2]
def rIn2 (K : Frg) (neg : Bool) : R2 := fun x y H Q => rIn K neg x y H Q ∨ (∃ d ds, Dp K H x d ∧ Dp K H y (.list ds) ∧ SeqAt.shaped d = true ∧ SeqAt.shaped (.list ds) = true ∧ Q (.bl (if neg then !ds.any fun z => PyData.eqv z d else ds.any fun z => PyData.eqv z d)) H)
theorem os_in {neg : Bool} : OpS S E (rIn2 S.K neg) (opIn neg) := fun HA HB G H x y a b sb ra rb => by
  unfold opIn opIn2
  split
  · rename_i d ys h1 h2
    split
    · rename_i h
      exact okB_now sb fun Q q => .inr ⟨_, _, DR.dp _ _ (ra.rd sb h1) (SeqAt.canLay_of_shaped h.1), DR.dp _ _ (rb.rd sb h2) (SeqAt.canLay_of_shaped h.2), h.1, h.2, q⟩
    · exact EvG.stk
  · rename_i d ys h1 h2
    split
    · rename_i h
      have r1 := ra.rd sb h1
      have r2 := rb.rd sb h2
      obtain ⟨p, vs, rfl, hp, r⟩ := DR.toTup r2
      refine okB_now sb fun Q q => .inl ⟨p, vs, rfl, .inr hp, r1.flat h.1, r.flat h.2, ?_⟩
      rw [inV_any r1 h.1 r h.2]
      exact q
    · exact EvG.stk
  · exact EvG.stk
theorem us_isN {neg : Bool} : UnS S E (fun x H Q => Q (.bl (if neg then !decide (x = .non) else decide (x = .non))) H) (opIsN neg) := fun HA G H x a sb ra => by
  cases a with
  | un => exact EvG.stk
  | d y =>
    have e := DR.isNon ra
    cases y <;> exact okB_now sb fun Q q => (by show Q (V.bl (if neg = true then !decide (x = V.non) else decide (x = V.non))) H; rw [e]; cases neg <;> exact q)
  | own ys =>
    obtain ⟨p, vs, rfl, _⟩ := ra
    exact okB_now sb fun Q q => (by cases neg <;> exact q)
  | fr ys =>
    obtain ⟨p, vs, rfl, _⟩ := ra
    exact okB_now sb fun Q q => (by cases neg <;> exact q)
  | dc ks ds =>
    obtain ⟨p, vs, rfl, _⟩ := ra
    exact okB_now sb fun Q q => (by cases neg <;> exact q)
theorem bool2_ok {r : R2} {f : Bool → Bool → M L} (h : ∀ (G H : Hp) i j, Sb G H → EvG S E (WR S) (r (.bl i) (.bl j) H) G H (f i j)) : OpS S E r (bool2 f) := fun HA HB G H x y a b sb ra rb => by
  unfold bool2
  split
  · rename_i i j
    rw [DR.toBl ra, DR.toBl rb]
    exact h G H i j sb
  · exact EvG.stk
theorem os_isB {neg : Bool} : OpS S E (fun x y H Q => ∃ a b : Bool, x = .bl a ∧ y = .bl b ∧ Q (.bl (if neg then !decide (a = b) else decide (a = b))) H) (opIsB neg) := bool2_ok fun G H i j sb => okB_now sb fun Q q => ⟨i, j, rfl, rfl, q⟩
end
end PD
/-! items, slices, displays, calls -/
namespace PD
open PySem PySem.Spec PyProof.Rows L2
/-- the items of what is like a list -/
def L.items : L → Option (List D)
  | .d (.list xs) => some xs
  | .d (.tuple xs) => some xs
  | .d (.dict [(.none, .list xs)]) => some xs
  | .own xs => some xs
  | .fr xs => some xs
  | _ => none
def opIx0 : L → L → M L
  | .d (.str z), .d (.int i) => if z.length ≤ cap then (match atI z.cps.toList i with
    | some c => .ok (.d (.str ⟨#[c]⟩))
    | none => .stuck) else .stuck
  | a, .d (.int i) => match a.items with
    | some xs => (match atI xs i with
      | some x => .ok (.d x)
      | none => .stuck)
    | none => .stuck
  | _, _ => .stuck
/-! dicts -/
def keysOf : List D → Option (List Key)
  | [] => some []
  | .int i :: r => (keysOf r).map (Sum.inl i :: ·)
  | .str x :: r => (keysOf r).map (Sum.inr x :: ·)
  | _ => none
theorem keysOf_map : ∀ ks : List Key, keysOf (ks.map kD) = some ks
  | [] => rfl
  | .inl i :: ks => by
    show (keysOf (ks.map kD)).map (Sum.inl i :: ·) = _
    rw [keysOf_map ks]
    rfl
  | .inr i :: ks => by
    show (keysOf (ks.map kD)).map (Sum.inr i :: ·) = _
    rw [keysOf_map ks]
    rfl
def L.dict : L → Option (List Key × List D)
  | .dc ks ds => some (ks, ds)
  | .d (.dict [(.bool true, .list kk), (.none, .list ds)]) => (keysOf kk).map fun ks => (ks, ds)
  | _ => none
def L.key : L → Option Key
  | .d (.int i) => some (.inl i)
  | .d (.str x) => some (.inr x)
  | _ => none
def getK (ks : List Key) (ds : List D) (k : Key) : Option D := ((ks.zip ds).find? fun p => decide (p.1 = k)).map (·.2)
def hasK (ks : List Key) (k : Key) : Bool := ks.any fun q => decide (q = k)
def putKs (ks : List Key) (k : Key) : List Key := if hasK ks k = true then ks else ks ++ [k]
def putVs {α : Type} (ks : List Key) (xs : List α) (k : Key) (x : α) : List α := if hasK ks k = true then (ks.zip xs).map (fun p => if p.1 = k then x else p.2) else xs ++ [x]
def ixD1 : Option D → M L
  | some d => .ok (.d d)
  | none => .stuck
def opIx (a b : L) : M L := match a.dict with
  | some p => (match b.key with
    | some k => ixD1 (getK p.1 p.2 k)
    | none => .stuck)
  | none => opIx0 a b
def cutD (xs : List D) (lo hi : Option Int) : List D := (xs.drop (HT.sIx xs.length 0 lo)).take (HT.sIx xs.length xs.length hi - HT.sIx xs.length 0 lo)
def opSl : L → Option Int → Option Int → M L
  | .d (.tuple xs), lo, hi => .ok (.d (.tuple (cutD xs lo hi)))
  | a, lo, hi => match a.rd with
    | .ok (.list xs) => .ok (.fr (cutD xs lo hi))
    | _ => .stuck
def opRev (a : L) : M L := match a.rd with
  | .ok (.list xs) => .ok (.fr xs.reverse)
  | _ => .stuck
def oNone : OF := fun _ => .ok none
def oSome (f : EF) : OF := fun env => (f env).bind fun
  | .d (.int i) => .ok (some i)
  | _ => .stuck
def eSl (f : EF) (lo hi : OF) : EF := fun env => (f env).bind fun a => (lo env).bind fun l => (hi env).bind fun h => opSl a l h
/-- as frozen data -/
def fzL (l : L) : M L := l.fz.bind fun d => .ok (.d d)
def eFz (f : EF) : EF := fun env => (f env).bind fzL
def allD : List L → M (List D)
  | [] => .ok []
  | .d x :: r => (allD r).bind fun ds => .ok (x :: ds)
  | _ => .stuck
def eTup (g : AF) : EF := fun env => (g env).bind fun ls => (allD ls).bind fun ds => if ds.length ≤ cap then .ok (.d (.tuple ds)) else .stuck
def eLst (g : AF) : EF := fun env => (g env).bind fun ls => (allD ls).bind fun ds => if ds.length ≤ cap then .ok (.fr ds) else .stuck
def eCall (f : List D → M D) (g : AF) : EF := fun env => (g env).bind fun ls => (allD ls).bind fun ds => (f ds).bind fun d => .ok (.d d)
def eBi (op : List L → M L) (g : AF) : EF := fun env => (g env).bind op
section
variable {S : Sys} {k : Nat} {E : XK} {cc : CC} {sc : SC}
theorem items_sq {HA G H : Hp} {x : V} {a : L} {xs : List D} (sb : Sb G H) (ra : WR S HA G H x a) (e : a.items = some xs) : ∃ p vs, x = .ref p ∧ (SqL S.K H p vs ∨ SqT S.K H p vs) ∧ DRs S.K G vs xs := by
  unfold L.items at e
  split at e <;> cases e
  · obtain ⟨p, vs, rfl, h1, r1⟩ := DR.toLst ra
    exact ⟨p, vs, rfl, .inl (SqL.of (sb.xt.lst h1)), r1⟩
  · obtain ⟨p, vs, rfl, h1, r1⟩ := DR.toTup ra
    exact ⟨p, vs, rfl, .inr (sb.xt.sqT h1), r1⟩
  · have ra' : DR S.K G x (.dict [(.none, .list xs)]) := ra
    cases ra' with
    | scr h1 => exact ⟨_, _, rfl, .inl (sb.xt.sqL h1), DRs.map fun n _ => .int n⟩
  · obtain ⟨p, vs, rfl, h1, r1⟩ := ra
    exact ⟨p, vs, rfl, .inl (SqL.of h1), r1⟩
  · obtain ⟨p, vs, rfl, _, _, h1, r1⟩ := ra
    exact ⟨p, vs, rfl, .inl (SqL.of h1), r1⟩
theorem atI_rel {G : Hp} {vs : List V} {xs : List D} {i : Int} {x : D} (r : DRs S.K G vs xs) (e : atI xs i = some x) : ∃ v, atI vs i = some v ∧ DR S.K G v x := by
  unfold atI at e ⊢
  rw [r.length]
  cases h : ixN xs.length i with
  | none => rw [h] at e; cases e
  | some j =>
    rw [h] at e
    exact r.get e
theorem os_ix0 : OpS S E (rIx S.K) opIx0 := fun HA HB G H x y a b sb ra rb => by
  unfold opIx0
  split
  · rename_i z i
    split
    · rename_i h
      split
      · rename_i c hc
        rw [DR.toStr ra, DR.toInt rb]
        exact EvG.now sb fun Q q => .inr (.inr ⟨z, i, c, rfl, rfl, cap_le h, hc, q _ (.str _)⟩)
      · exact EvG.stk
    · exact EvG.stk
  · rename_i i _
    rw [DR.toInt rb]
    split
    · rename_i xs e1
      split
      · rename_i x2 e2
        obtain ⟨p, vs, rfl, h1, r1⟩ := items_sq sb ra e1
        obtain ⟨v, hv, rv⟩ := atI_rel r1 e2
        rcases h1 with h1 | h1
        · exact EvG.now sb fun Q q => .inl ⟨p, vs, i, v, rfl, rfl, h1, hv, q v rv⟩
        · exact EvG.now sb fun Q q => .inr (.inl ⟨p, vs, i, v, rfl, rfl, h1, hv, q v rv⟩)
      · exact EvG.stk
    · exact EvG.stk
  · exact EvG.stk
def rIxDG : R2 := fun x y H Q => ∃ a v, x = .ref a ∧ DGet H a y (some v) ∧ Q v H
theorem ix_dg {X : Cx} (hu : X.A.units + 1 < cLine) : IxR X rIxDG := by
  intro value slice pins s σ H x y v u Q I rx ry h hs
  obtain ⟨a, r, rfl, g, q⟩ := h
  obtain rfl : v = Value.ref a := rx
  exact tail_any (dict_typeIs I g) PySem.F.slot_dict_getitem.lookup (d_getItem hu I g ry fun w' s' I' rw' => ⟨r, H, I', rw', q⟩) hs
theorem dict_rel {HA G H : Hp} {x : V} {a : L} {p : List Key × List D} (sb : Sb G H) (ra : WR S HA G H x a) (e : a.dict = some p) : ∃ q vs, x = .ref q ∧ H q = some (.dK (p.1.zip vs)) ∧ p.1.length = vs.length ∧ DRs S.K G vs p.2 := by
  unfold L.dict at e
  split at e
  · cases e
    obtain ⟨q, vs, rfl, hp, hl, r⟩ := ra
    exact ⟨q, vs, rfl, hp, hl, r⟩
  · rename_i kk ds
    have ra' : DR S.K G x (.dict [(.bool true, .list kk), (.none, .list ds)]) := ra
    cases ra' with
    | dct e1 l r =>
      rw [keysOf_map] at e
      cases e
      exact ⟨_, _, rfl, sb.xt.dK e1, l, r⟩
  · cases e
theorem get_rel {G : Hp} {k : Key} {d : D} : ∀ {ks : List Key} {vs : List V} {ds : List D}, DRs S.K G vs ds → ks.length = vs.length → getK ks ds k = some d → ∃ v, valV (ks.zip vs) k = some v ∧ DR S.K G v d
  | [], _, _, _, _, e => by cases e
  | k0 :: ks, _, _, .nil, hl, _ => by cases hl
  | k0 :: ks, v :: vs, d0 :: ds, .cons a r, hl, e => by
    unfold getK at e
    rw [List.zip_cons_cons, List.find?_cons] at e
    by_cases h : k0 = k
    · rw [decide_eq_true h] at e
      cases e
      exact ⟨v, by rw [List.zip_cons_cons]; exact valV_pos h, a⟩
    · rw [decide_eq_false h] at e
      obtain ⟨v', h1, h2⟩ := get_rel r (by simpa using hl) e
      exact ⟨v', by rw [List.zip_cons_cons, valV_neg h]; exact h1, h2⟩
theorem key_rel {HB G H : Hp} {y : V} {b : L} {k : Key} (rb : WR S HB G H y b) (e : b.key = some k) : y = kV k := by
  unfold L.key at e
  split at e <;> cases e
  · exact DR.toInt rb
  · exact DR.toStr rb
def rIx2 (K : Frg) : R2 := fun x y H Q => rIx K x y H Q ∨ rIxDG x y H Q
theorem or_ix {X : Cx} (hu : X.A.units + 1 < cLine) : IxR X (rIx2 X.K) := ix_seq.or (ix_dg hu)
theorem os_ix : OpS S E (rIx2 S.K) opIx := fun HA HB G H x y a b sb ra rb => by
  unfold opIx
  split
  · rename_i p e1
    split
    · rename_i k e2
      obtain ⟨q, vs, rfl, hp, hl, r⟩ := dict_rel sb ra e1
      rw [key_rel rb e2]
      cases e3 : getK p.1 p.2 k with
      | none => exact EvG.stk
      | some d =>
        obtain ⟨v, hv, rv⟩ := get_rel r hl e3
        exact EvG.now sb fun Q qq => .inr ⟨q, v, rfl, .inl ⟨_, k, .inl hp, rfl, hv.symm⟩, qq v rv⟩
    · exact EvG.stk
  · exact (os_ix0 HA HB G H x y a b sb ra rb).imp fun Q q => .inl q
theorem cut_rel {G : Hp} {vs : List V} {xs : List D} {lo hi : Option Int} (r : DRs S.K G vs xs) : DRs S.K G (cutV vs lo hi) (cutD xs lo hi) := by
  unfold cutV cutD
  rw [r.length]
  exact (r.drop _).take _
def rSl2 (K : Frg) : V → Option Int → Option Int → Hp → VK → Prop := fun x lo hi H Q => rSlA K x lo hi H Q ∨ rSlL K x lo hi H Q
theorem sl_2 {X : Cx} : SlR X (rSl2 X.K) := sl_tupA.or sl_list
theorem sl_ok {HA G H : Hp} {x : V} {a : L} {lo hi : Option Int} (sb : Sb G H) (ra : WR S HA G H x a) : EvG S E (WR S) (rSl2 S.K x lo hi H) G H (opSl a lo hi) := by
  unfold opSl
  split
  · rename_i xs
    obtain ⟨p, vs, rfl, h1, r1⟩ := DR.toTup ra
    by_cases hw : HT.sIx vs.length 0 lo = 0 ∧ HT.sIx vs.length vs.length hi = vs.length
    · have e : cutD xs lo hi = xs := by
        unfold cutD
        rw [← r1.length, hw.1, hw.2, List.drop_zero, Nat.sub_zero, r1.length]
        exact List.take_length
      rw [e]
      exact EvG.now sb fun Q q => .inl ⟨p, vs, rfl, sb.xt.sqT h1, fun _ => q _ (.tup h1 r1), fun z => absurd hw z⟩
    · exact ev_newT sb (cut_rel r1) fun Q q => .inl ⟨p, vs, rfl, sb.xt.sqT h1, fun z => absurd z hw, fun _ => q⟩
  · split
    · rename_i xs e1
      obtain ⟨p, vs, rfl, h1, r1⟩ := rd_lst sb ra e1
      exact ev_newL sb (cut_rel r1) fun Q q => .inr ⟨p, vs, rfl, SqL.of h1, q⟩
    · exact EvG.stk
theorem co_none : CO S k E cc sc none oNone := ⟨tNoPart, fun X c => po_none, fun H0 G H σ env a => EvG.now a.sb fun Q q => q _ rfl⟩
theorem co_some {e : Expr} {f : EF} (h : CE S k E cc sc e f) : CO S k E cc sc (some e) (oSome f) := by
  obtain ⟨t, p, v⟩ := h
  refine ⟨tPart t, fun X c => po_some (p X c), fun H0 G H σ env at0 => ?_⟩
  refine EvG.bind (tq := t σ H) (k := fun x H1 Q => ∃ i, x = .int i ∧ Q (some i) H1) (v H0 G H σ env at0) fun x l G2 H2 el x2 r2 => ⟨G2, x2, ?_⟩
  clear el
  split
  · rename_i i
    exact EvG.now x2.gh fun Q q => ⟨i, DR.toInt r2, q _ rfl⟩
  · exact EvG.stk
theorem ce_sl {e : Expr} {lo hi : Option Expr} {f : EF} {g h : OF} {p2 pos : Pos} (he : CE S k E cc sc e f) (hl : CO S k E cc sc lo g) (hh : CO S k E cc sc hi h) : CE S k E cc sc (.Subscript e (.Slice lo hi none p2) pos) (eSl f g h) := by
  obtain ⟨t, p, v⟩ := he
  obtain ⟨tl, pl, vl⟩ := hl
  obtain ⟨th, ph, vh⟩ := hh
  refine ⟨tSl (rSl2 S.K) t tl th, fun X c => by rw [← c.K]; exact pe_slice sl_2 (p X c) (pl X c) (ph X c), fun H0 G H σ env at0 => ?_⟩
  refine EvG.bind (tq := t σ H) (k := fun x H1 Q => tl σ H1 fun l H2 => th σ H2 fun u H3 => rSl2 S.K x l u H3 Q) (v H0 G H σ env at0) fun x a G2 H2 _ x2 r2 => ⟨G2, x2, ?_⟩
  refine EvG.bind (tq := tl σ H2) (k := fun l H2 Q => th σ H2 fun u H3 => rSl2 S.K x l u H3 Q) (vl H0 G2 H2 σ env (at0.up x2)) fun l l' G3 H3 _ x3 r3 => ⟨G3, x3, ?_⟩
  refine EvG.bind (tq := th σ H3) (k := fun u H3 Q => rSl2 S.K x l u H3 Q) (vh H0 G3 H3 σ env ((at0.up x2).up x3)) fun u u' G4 H4 _ x4 r4 => ⟨G4, x4, ?_⟩
  have e3 : l = l' := r3
  have e4 : u = u' := r4
  subst e3 e4
  exact (sl_ok x4.gh ((r2.up x3).up x4)).weak (bk_W S) fun p h => x2.dom p (x3.dom p (x4.dom p h))
theorem us_rev : UnS S E (fun x H Q => ∃ a xs, x = .ref a ∧ SqL S.K H a xs ∧ ∀ p, H p = none → Q (.ref p) (upd H p (.lst xs.reverse))) opRev := fun HA G H x a sb ra => by
  unfold opRev
  split
  · rename_i xs e1
    obtain ⟨p, vs, rfl, h1, r1⟩ := rd_lst sb ra e1
    exact ev_newL sb r1.reverse fun Q q => ⟨p, vs, rfl, SqL.of h1, q⟩
  · exact EvG.stk
theorem ce_fz {e : Expr} {f : EF} (h : CE S k E cc sc e f) : CE S k E cc sc e (eFz f) := by
  obtain ⟨t, p, v⟩ := h
  refine ⟨t, p, fun H0 G H σ env at0 => EvG.map (v H0 G H σ env at0) (fun x l G2 H2 d _ ed x2 r2 => ?_) fun b c z => ?_⟩
  · unfold fzL at ed
    cases e1 : l.fz with
    | stuck => rw [e1] at ed; cases ed
    | ex c => rw [e1] at ed; cases ed
    | ok y =>
      rw [e1] at ed
      cases ed
      exact r2.fz x2 e1
  · unfold fzL at z
    cases b <;> cases z
theorem allD_ok {HA G H : Hp} : ∀ {vs : List V} {ls : List L} {ds : List D}, WRs S HA G H vs ls → allD ls = .ok ds → DRs S.K G vs ds
  | _, _, ds, .nil, e => by
    cases e
    exact .nil
  | _, _, ds, .cons (l := l) (ls := ls) a r, e => by
    cases l <;> first | (cases e; done) | skip
    rename_i x
    have e' : (allD ls).bind (fun ds => .ok (x :: ds)) = .ok ds := e
    cases e1 : allD ls with
    | stuck => rw [e1] at e'; cases e'
    | ex c => rw [e1] at e'; cases e'
    | ok es =>
      rw [e1] at e'
      cases e'
      exact .cons a (allD_ok r e1)
theorem allD_ex {c : Str} : ∀ ls : List L, allD ls ≠ .ex c
  | [], z => by cases z
  | l :: ls, z => by
    cases l <;> first | (cases z; done) | skip
    rename_i x
    have e' : (allD ls).bind (fun ds => .ok (x :: ds)) = .ex c := z
    cases e1 : allD ls with
    | stuck => rw [e1] at e'; cases e'
    | ex c2 => exact allD_ex ls e1
    | ok es => rw [e1] at e'; cases e'
theorem ce_tup {es : List Expr} {g : AF} {n : Nat} {pos : Pos} (h : CA S k E cc sc es g) : CE S k E cc sc (.Tuple es n pos) (eTup g) := by
  obtain ⟨t, p, v⟩ := h
  refine ⟨tTup t, fun X c => pe_tup (p X c), fun H0 G H σ env at0 => ?_⟩
  refine EvG.bind (tq := t σ H) (k := fun xs H1 (Q : VK) => xs.length ≤ sizeLine ∧ ∀ p, H1 p = none → Q (V.ref p) (upd H1 p (.tup xs))) (v H0 G H σ env at0) fun x l G2 H2 _ x2 r2 => ⟨G2, x2, ?_⟩
  cases e1 : allD l with
  | stuck => exact EvG.stk
  | ex c => exact absurd e1 (allD_ex l)
  | ok ds =>
    have r := allD_ok r2 e1
    show EvG S E (fun _ => WR S H) _ G2 H2 (if ds.length ≤ cap then .ok (.d (.tuple ds)) else .stuck)
    split
    · rename_i h
      exact (ev_newT x2.gh r fun Q q => ⟨by rw [r.length]; exact cap_le h, q⟩).weak (bk_W S) x2.dom
    · exact EvG.stk
theorem ce_lst {es : List Expr} {g : AF} {pos : Pos} (h : CA S k E cc sc es g) : CE S k E cc sc (.List es pos) (eLst g) := by
  obtain ⟨t, p, v⟩ := h
  refine ⟨tLst t, fun X c => pe_lst (p X c), fun H0 G H σ env at0 => ?_⟩
  refine EvG.bind (tq := t σ H) (k := fun xs H1 (Q : VK) => xs.length ≤ sizeLine ∧ ∀ p, H1 p = none → Q (V.ref p) (upd H1 p (.lst xs))) (v H0 G H σ env at0) fun x l G2 H2 _ x2 r2 => ⟨G2, x2, ?_⟩
  cases e1 : allD l with
  | stuck => exact EvG.stk
  | ex c => exact absurd e1 (allD_ex l)
  | ok ds =>
    have r := allD_ok r2 e1
    show EvG S E (fun _ => WR S H) _ G2 H2 (if ds.length ≤ cap then .ok (.fr ds) else .stuck)
    split
    · rename_i h
      exact (ev_newL x2.gh r fun Q q => ⟨by rw [r.length]; exact cap_le h, q⟩).weak (bk_W S) x2.dom
    · exact EvG.stk
/-- a def called on data -/
theorem sp_ok {n : Nat} {f : List D → M D} {G H : Hp} {vs : List V} {ds : List D} (sb : Sb G H) (tb : LamX.Tabs S.T H) (r : DRs S.K G vs ds) (hn : ds.length = n) :
    EvG S E (WR S) (fun Q => spD S n f vs H Q E) G H ((f ds).bind fun d => .ok (.d d)) := by
  have hl : vs.length = n := r.length.trans hn
  cases e : f ds with
  | stuck => exact EvG.stk
  | ex c => exact fun Q q => ⟨G, ds, hl, sb, tb, r, by rw [e]; exact fun G' H' x => q G' H' x⟩
  | ok d => exact fun Q q => ⟨G, ds, hl, sb, tb, r, by rw [e]; exact fun v G' H' x rv => q v G' H' x rv⟩
theorem back_any {pos : Pos} {l : List (Bool × Sem Value)} : (backTo pos l).any (·.1) = l.any (·.1) := by
  unfold backTo
  rw [List.any_map]
  rfl
theorem star_any {env : Env} : ∀ {es : List Expr}, es.all notStar = true → (starEach es env).any (·.1) = false
  | [], _ => rfl
  | e :: es, h => by
    rw [List.all_cons, Bool.and_eq_true] at h
    rw [star_cons h.1, List.any_cons, star_any h.2]
    rfl
def glB (sc : SC) (x : Str) : Bool := decide (sc.sc.names.lookup x = some .globalImplicit) && (!(x == ("__debug__" : Str)) && !(x == ("__name__" : Str)))
theorem glB_ok {x : Str} {X : Cx} (c : CtxOk S k E cc sc X) (h : glB sc x = true) : Gl X x ∧ (x == ("__debug__" : Str)) = false ∧ x ≠ "__name__" := by
  unfold glB at h
  rw [Bool.and_eq_true, Bool.and_eq_true, Bool.not_eq_true', Bool.not_eq_true'] at h
  refine ⟨?_, h.2.1, fun z => ?_⟩
  · have h1 := of_decide_eq_true h.1
    show X.env.scope.names.lookup x = _
    rw [c.scp]
    exact h1
  · have h2 := h.2.2
    rw [z] at h2
    exact absurd h2 (by decide)
theorem ce_call {x : Str} {es : List Expr} {e : Expr} {g : AF} {fe : FnE} {p pos : Pos} (C : CcOk S k cc) (hf : fe ∈ cc.fns) (hx : fe.x = x) (hn : (e :: es).length = fe.n) (hs : (e :: es).all notStar = true) (hg : glB sc x = true) (h : CA S k E cc sc (e :: es) g)
    (hlen : ∀ env ls, g env = .ok ls → ls.length = (e :: es).length) : CE S k E cc sc (.Call (.Name x p) (e :: es) [] pos) (eCall fe.f g) := by
  obtain ⟨t, pa, v⟩ := h
  obtain ⟨fa, fd, ps, hm, hps, hb, hk, F⟩ := (C.fns fe hf).ex
  refine ⟨tCall (spD S fe.n fe.f) [] E t, fun X c => ?_, fun H0 G H σ env at0 => ?_⟩
  · obtain ⟨g1, g2, _⟩ := glB_ok c hg
    obtain ⟨P, w, K, mg, base, A, N, s0, HH, env, outer, stack, ex, fn, calm, pn, xe⟩ := X
    obtain ⟨rfl, rfl, rfl, rfl, rfl, hN, nd, hc, hsc, hfn, room, pass, lam⟩ := c
    rw [List.all_cons, Bool.and_eq_true] at hs
    exact pe_call F room g1 (by rw [← hx]; exact hm) hk hb .nil pass (pa _ ⟨rfl, rfl, rfl, rfl, rfl, hN, nd, hc, hsc, hfn, room, pass, lam⟩) g2 (star_cons hs.1) (by rw [back_any]; exact star_any hs.2)
  · refine EvG.bind (tq := t σ H) (k := fun vs H1 Q => spD S fe.n fe.f (vs ++ []) H1 Q E) (v H0 G H σ env at0) fun x l G2 H2 el x2 r2 => ⟨G2, x2, ?_⟩
    cases e1 : allD l with
    | stuck => exact EvG.stk
    | ex c => exact absurd e1 (allD_ex l)
    | ok ds =>
      have r := allD_ok r2 e1
      have hl : ds.length = fe.n := by
        have h1 : l.length = (e :: es).length := hlen env l el
        have h2 : x.length = l.length := by
          clear e1 r el h1
          induction r2 with
          | nil => rfl
          | cons _ _ ih => simp [ih]
        rw [← r.length, h2, h1, hn]
      rw [List.append_nil]
      exact (sp_ok x2.gh (x2.t at0.tb) r hl).weak (bk_W S) x2.dom
/-! ### built-in calls by values -/
def CallS (S : Sys) (E : XK) (r : List V → Hp → VK → Prop) (op : List L → M L) : Prop := ∀ (HA G H : Hp) vs ls, Sb G H → WRs S HA G H vs ls → EvG S E (WR S) (r vs H) G H (op ls)
theorem ce_bi {r : List V → Hp → VK → Prop} {op : List L → M L} {es : List Expr} {e : Expr} {g : AF} (he : ∀ X, CtxOk S k E cc sc X → ∀ t, PA X es t → PE X e (tCB r t)) (ho : CallS S E r op) (h : CA S k E cc sc es g) : CE S k E cc sc e (eBi op g) := by
  obtain ⟨t, pa, v⟩ := h
  refine ⟨tCB r t, fun X c => he X c t (pa X c), fun H0 G H σ env at0 => ?_⟩
  exact EvG.bind (tq := t σ H) (k := fun vs H1 Q => r vs H1 Q) (v H0 G H σ env at0) fun x l G2 H2 _ x2 r2 => ⟨G2, x2, (ho _ G2 H2 x l x2.gh r2).weak (bk_W S) x2.dom⟩
def bLen : List L → M L
  | [.d (.str z)] => if z.length ≤ cap then okI z.length else .stuck
  | [a] => match a.items with
    | some xs => okI xs.length
    | none => .stuck
  | _ => .stuck
def bInt : List L → M L
  | [.d (.int i)] => okI i
  | [.d (.bool b)] => okI (if b then 1 else 0)
  | _ => .stuck
def bList : List L → M L
  | [.d (.tuple xs)] => .ok (.fr xs)
  | [a] => match a.rd with
    | .ok (.list xs) => .ok (.fr xs)
    | _ => .stuck
  | _ => .stuck
def bTuple : List L → M L
  | [.d (.tuple xs)] => .ok (.d (.tuple xs))
  | [a] => match a.rd with
    | .ok (.list xs) => .ok (.d (.tuple xs))
    | _ => .stuck
  | _ => .stuck
def rdInts (a : L) : Option (List Int) := match a.rd with
  | .ok (.list xs) => intsOf xs
  | _ => none
def rdBools (a : L) : Option (List Bool) := match a.rd with
  | .ok (.list xs) => boolsOf xs
  | _ => none
def bSum : List L → M L
  | [a] => match rdInts a with
    | some ns => okI ns.sum
    | none => .stuck
  | _ => .stuck
def bAny : List L → M L
  | [a] => match rdBools a with
    | some bs => okB (bs.any id)
    | none => .stuck
  | _ => .stuck
def bAll : List L → M L
  | [a] => match rdBools a with
    | some bs => okB (bs.all id)
    | none => .stuck
  | _ => .stuck
def maxI : List Int → Option Int
  | [] => none
  | [i] => some i
  | i :: r => (maxI r).map fun m => if m > i then m else i
def minI : List Int → Option Int
  | [] => none
  | [i] => some i
  | i :: r => (minI r).map fun m => if m < i then m else i
def oI : Option Int → M L
  | some i => okI i
  | none => .stuck
def bMax : List L → M L
  | [.d (.int i), .d (.int j)] => okI (if j > i then j else i)
  | [a] => oI ((rdInts a).bind maxI)
  | _ => .stuck
def bMin : List L → M L
  | [.d (.int i), .d (.int j)] => okI (if j < i then j else i)
  | [a] => oI ((rdInts a).bind minI)
  | _ => .stuck
def sortI (ns : List Int) : List Int := ns.mergeSort (fun a b => decide (a ≤ b))
def bSorted : List L → M L
  | [a] => match rdInts a with
    | some ns => .ok (.fr ((sortI ns).map .int))
    | none => .stuck
  | _ => .stuck
def bAbs : List L → M L
  | [.d (.int i)] => okI (if i < 0 then -i else i)
  | _ => .stuck
theorem rdInts_ok {HA G H : Hp} {x : V} {a : L} {ns : List Int} (sb : Sb G H) (ra : WR S HA G H x a) (e : rdInts a = some ns) : ∃ p, x = .ref p ∧ H p = some (.lst (ns.map V.int)) := by
  unfold rdInts at e
  split at e
  · rename_i xs e1
    obtain ⟨p, vs, rfl, h1, r1⟩ := rd_lst sb ra e1
    rw [intsOf_eq e] at r1
    rw [r1.ints] at h1
    exact ⟨p, rfl, h1⟩
  · cases e
theorem rdBools_ok {HA G H : Hp} {x : V} {a : L} {ns : List Bool} (sb : Sb G H) (ra : WR S HA G H x a) (e : rdBools a = some ns) : ∃ p, x = .ref p ∧ H p = some (.lst (ns.map V.bl)) := by
  unfold rdBools at e
  split at e
  · rename_i xs e1
    obtain ⟨p, vs, rfl, h1, r1⟩ := rd_lst sb ra e1
    rw [boolsOf_eq e] at r1
    rw [r1.bools] at h1
    exact ⟨p, rfl, h1⟩
  · cases e
theorem wrs1 {HA G H : Hp} {vs : List V} {a : L} (h : WRs S HA G H vs [a]) : ∃ x, vs = [x] ∧ WR S HA G H x a := by
  cases h with
  | cons h1 h2 =>
    cases h2
    exact ⟨_, rfl, h1⟩
theorem wrs2 {HA G H : Hp} {vs : List V} {a b : L} (h : WRs S HA G H vs [a, b]) : ∃ x y, vs = [x, y] ∧ WR S HA G H x a ∧ WR S HA G H y b := by
  cases h with
  | cons h1 h2 =>
    cases h2 with
    | cons h2 h3 =>
      cases h3
      exact ⟨_, _, rfl, h1, h2⟩
theorem cs_len : CallS S E (fun xs H Q => ∃ x n, xs = [x] ∧ LenV S.K x H n ∧ Q (.int n) H) bLen := fun HA G H vs ls sb r => by
  unfold bLen
  split
  · rename_i z
    split
    · rename_i h
      obtain ⟨x, rfl, r1⟩ := wrs1 r
      rw [DR.toStr r1]
      exact okI_now sb fun Q q => ⟨_, _, rfl, ⟨cap_le h, rfl⟩, q⟩
    · exact EvG.stk
  · rename_i a _
    split
    · rename_i xs e1
      obtain ⟨x, rfl, r1⟩ := wrs1 r
      obtain ⟨p, us, rfl, h1, r2⟩ := items_sq sb r1 e1
      rw [← r2.length]
      rcases h1 with h1 | h1
      · exact okI_now sb fun Q q => ⟨_, _, rfl, .inl ⟨us, h1, rfl⟩, q⟩
      · exact okI_now sb fun Q q => ⟨_, _, rfl, .inr ⟨us, h1, rfl⟩, q⟩
    · exact EvG.stk
  · exact EvG.stk
theorem cs_int : CallS S E (fun xs H Q => (∃ i, xs = [.int i] ∧ Q (.int i) H) ∨ ∃ k, xs = [.bl k] ∧ Q (.int (if k then 1 else 0)) H) bInt := fun HA G H vs ls sb r => by
  unfold bInt
  split
  · rename_i i
    obtain ⟨x, rfl, r1⟩ := wrs1 r
    rw [DR.toInt r1]
    exact okI_now sb fun Q q => .inl ⟨i, rfl, q⟩
  · rename_i b
    obtain ⟨x, rfl, r1⟩ := wrs1 r
    rw [DR.toBl r1]
    exact okI_now sb fun Q q => .inr ⟨b, rfl, q⟩
  · exact EvG.stk
theorem cs_list : CallS S E (fun xs H Q => ∃ p ys, xs = [.ref p] ∧ (SqL S.K H p ys ∨ SqT S.K H p ys) ∧ ∀ l, H l = none → Q (.ref l) (upd H l (.lst ys))) bList := fun HA G H vs ls sb r => by
  unfold bList
  split
  · rename_i xs
    obtain ⟨x, rfl, r1⟩ := wrs1 r
    obtain ⟨p, us, rfl, h1, r2⟩ := DR.toTup r1
    exact ev_newL sb r2 fun Q q => ⟨p, us, rfl, .inr (sb.xt.sqT h1), q⟩
  · rename_i a _
    split
    · rename_i xs e1
      obtain ⟨x, rfl, r1⟩ := wrs1 r
      obtain ⟨p, us, rfl, h1, r2⟩ := rd_lst sb r1 e1
      exact ev_newL sb r2 fun Q q => ⟨p, us, rfl, .inl (SqL.of h1), q⟩
    · exact EvG.stk
  · exact EvG.stk
theorem cs_tuple : CallS S E (fun xs H Q => ∃ p ys, xs = [.ref p] ∧ ((SqL S.K H p ys ∧ ∀ l, H l = none → Q (.ref l) (upd H l (.tup ys))) ∨ (SqT S.K H p ys ∧ Q (.ref p) H))) bTuple := fun HA G H vs ls sb r => by
  unfold bTuple
  split
  · rename_i xs
    obtain ⟨x, rfl, r1⟩ := wrs1 r
    obtain ⟨p, us, rfl, h1, r2⟩ := DR.toTup r1
    exact EvG.now sb fun Q q => ⟨p, us, rfl, .inr ⟨sb.xt.sqT h1, q _ (.tup h1 r2)⟩⟩
  · rename_i a _
    split
    · rename_i xs e1
      obtain ⟨x, rfl, r1⟩ := wrs1 r
      obtain ⟨p, us, rfl, h1, r2⟩ := rd_lst sb r1 e1
      exact ev_newT sb r2 fun Q q => ⟨p, us, rfl, .inl ⟨SqL.of h1, q⟩⟩
    · exact EvG.stk
  · exact EvG.stk
theorem cs_sum : CallS S E (rSum S.K) bSum := fun HA G H vs ls sb r => by
  unfold bSum
  split
  · rename_i a
    split
    · rename_i ns e1
      obtain ⟨x, rfl, r1⟩ := wrs1 r
      obtain ⟨p, rfl, h1⟩ := rdInts_ok sb r1 e1
      exact okI_now sb fun Q q => ⟨p, ns, rfl, SqL.of h1, q⟩
    · exact EvG.stk
  · exact EvG.stk
theorem cs_any : CallS S E (rAny S.K) bAny := fun HA G H vs ls sb r => by
  unfold bAny
  split
  · rename_i a
    split
    · rename_i ns e1
      obtain ⟨x, rfl, r1⟩ := wrs1 r
      obtain ⟨p, rfl, h1⟩ := rdBools_ok sb r1 e1
      exact okB_now sb fun Q q => ⟨p, ns, rfl, SqL.of h1, q⟩
    · exact EvG.stk
  · exact EvG.stk
theorem cs_all : CallS S E (rAll S.K) bAll := fun HA G H vs ls sb r => by
  unfold bAll
  split
  · rename_i a
    split
    · rename_i ns e1
      obtain ⟨x, rfl, r1⟩ := wrs1 r
      obtain ⟨p, rfl, h1⟩ := rdBools_ok sb r1 e1
      exact okB_now sb fun Q q => ⟨p, ns, rfl, SqL.of h1, q⟩
    · exact EvG.stk
  · exact EvG.stk
theorem maxI_ok : ∀ {ns : List Int} {m : Int}, maxI ns = some m → m ∈ ns ∧ ∀ y ∈ ns, y ≤ m
  | [], m, h => by cases h
  | [i], m, h => by cases h; simp
  | i :: j :: r, m, h => by
    have h' : (maxI (j :: r)).map (fun m => if m > i then m else i) = some m := h
    cases e : maxI (j :: r) with
    | none => rw [e] at h'; cases h'
    | some n =>
      rw [e] at h'
      obtain ⟨a, b⟩ := maxI_ok e
      have h2 : (if n > i then n else i) = m := Option.some.inj h'
      split at h2
      · subst h2
        exact ⟨by simp only [List.mem_cons] at a ⊢; exact .inr a, fun y hy => by
          rcases List.mem_cons.mp hy with z | z
          · omega
          · exact b y z⟩
      · subst h2
        exact ⟨by simp, fun y hy => by
          rcases List.mem_cons.mp hy with z | z
          · omega
          · have := b y z; omega⟩
theorem minI_ok : ∀ {ns : List Int} {m : Int}, minI ns = some m → m ∈ ns ∧ ∀ y ∈ ns, m ≤ y
  | [], m, h => by cases h
  | [i], m, h => by cases h; simp
  | i :: j :: r, m, h => by
    have h' : (minI (j :: r)).map (fun m => if m < i then m else i) = some m := h
    cases e : minI (j :: r) with
    | none => rw [e] at h'; cases h'
    | some n =>
      rw [e] at h'
      obtain ⟨a, b⟩ := minI_ok e
      have h2 : (if n < i then n else i) = m := Option.some.inj h'
      split at h2
      · subst h2
        exact ⟨by simp only [List.mem_cons] at a ⊢; exact .inr a, fun y hy => by
          rcases List.mem_cons.mp hy with z | z
          · omega
          · exact b y z⟩
      · subst h2
        exact ⟨by simp, fun y hy => by
          rcases List.mem_cons.mp hy with z | z
          · omega
          · have := b y z; omega⟩
def rMax2 (K : Frg) : List V → Hp → VK → Prop := fun xs H Q => (∃ i j, xs = [.int i, .int j] ∧ Q (.int (if j > i then j else i)) H) ∨ rMax K xs H Q
def rMin2 (K : Frg) : List V → Hp → VK → Prop := fun xs H Q => (∃ i j, xs = [.int i, .int j] ∧ Q (.int (if j < i then j else i)) H) ∨ rMin K xs H Q
theorem cs_max : CallS S E (rMax2 S.K) bMax := fun HA G H vs ls sb r => by
  unfold bMax
  split
  · rename_i i j
    obtain ⟨x, y, rfl, r1, r2⟩ := wrs2 r
    rw [DR.toInt r1, DR.toInt r2]
    exact okI_now sb fun Q q => .inl ⟨i, j, rfl, q⟩
  · rename_i a
    cases e : rdInts a with
    | none => exact EvG.stk
    | some ns =>
      show EvG S E (WR S) _ G H (oI (maxI ns))
      cases e2 : maxI ns with
      | none => exact EvG.stk
      | some m =>
        obtain ⟨x, rfl, r1⟩ := wrs1 r
        obtain ⟨p, rfl, h1⟩ := rdInts_ok sb r1 e
        obtain ⟨a1, b1⟩ := maxI_ok e2
        refine okI_now sb fun Q q => .inr ⟨p, ns, rfl, SqL.of h1, ?_, fun m' h3 h4 => ?_⟩
        · exact List.length_pos_of_mem a1
        · have h5 := h4 m a1
          have h6 := b1 m' h3
          rw [show m' = m by omega]
          exact q
  · exact EvG.stk
theorem cs_min : CallS S E (rMin2 S.K) bMin := fun HA G H vs ls sb r => by
  unfold bMin
  split
  · rename_i i j
    obtain ⟨x, y, rfl, r1, r2⟩ := wrs2 r
    rw [DR.toInt r1, DR.toInt r2]
    exact okI_now sb fun Q q => .inl ⟨i, j, rfl, q⟩
  · rename_i a
    cases e : rdInts a with
    | none => exact EvG.stk
    | some ns =>
      show EvG S E (WR S) _ G H (oI (minI ns))
      cases e2 : minI ns with
      | none => exact EvG.stk
      | some m =>
        obtain ⟨x, rfl, r1⟩ := wrs1 r
        obtain ⟨p, rfl, h1⟩ := rdInts_ok sb r1 e
        obtain ⟨a1, b1⟩ := minI_ok e2
        refine okI_now sb fun Q q => .inr ⟨p, ns, rfl, SqL.of h1, ?_, fun m' h3 h4 => ?_⟩
        · exact List.length_pos_of_mem a1
        · have h5 := h4 m a1
          have h6 := b1 m' h3
          rw [show m' = m by omega]
          exact q
  · exact EvG.stk
theorem sorted_unique {a b : List Int} (p : a.Perm b) (ha : a.Pairwise (· ≤ ·)) (hb : b.Pairwise (· ≤ ·)) : a = b := by
  induction a generalizing b with
  | nil => exact (List.Perm.nil_eq p)
  | cons x a ih =>
    cases b with
    | nil => exact absurd p.length_eq (by simp)
    | cons y b =>
      have hx : x ∈ y :: b := p.mem_iff.mp (by simp)
      have hy : y ∈ x :: a := p.mem_iff.mpr (by simp)
      rw [List.pairwise_cons] at ha hb
      have e : x = y := by
        rcases List.mem_cons.mp hx with h1 | h1
        · exact h1
        · rcases List.mem_cons.mp hy with h2 | h2
          · exact h2.symm
          · have := hb.1 x h1
            have := ha.1 y h2
            omega
      subst e
      rw [ih (List.Perm.cons_inv p) ha.2 hb.2]
theorem sortI_perm (ns : List Int) : (sortI ns).Perm ns := List.mergeSort_perm _ _
theorem sortI_le (ns : List Int) : (sortI ns).Pairwise (· ≤ ·) := by
  have h := List.pairwise_mergeSort (le := fun a b : Int => decide (a ≤ b)) (fun a b c h1 h2 => by
    have h1 := of_decide_eq_true h1
    have h2 := of_decide_eq_true h2
    exact decide_eq_true (by omega)) (fun a b => by
    by_cases h : a ≤ b
    · rw [decide_eq_true h]; rfl
    · rw [decide_eq_true (show b ≤ a by omega), Bool.or_true]) ns
  exact h.imp fun {a b} h => of_decide_eq_true h
theorem cs_sorted : CallS S E (rSortedI S.K) bSorted := fun HA G H vs ls sb r => by
  unfold bSorted
  split
  · rename_i a
    split
    · rename_i ns e1
      obtain ⟨x, rfl, r1⟩ := wrs1 r
      obtain ⟨p, rfl, h1⟩ := rdInts_ok sb r1 e1
      refine ev_newL (vs := (sortI ns).map V.int) sb (DRs.map fun n _ => .int n) fun Q q => ⟨p, ns, rfl, SqL.of h1, fun ns' p2 h2 h3 hp => ?_⟩
      rw [sorted_unique (h2.trans (sortI_perm ns).symm) h3 (sortI_le ns)]
      exact q p2 hp
    · exact EvG.stk
  · exact EvG.stk
theorem cs_abs : CallS S E (fun xs H Q => ∃ i, xs = [.int i] ∧ Q (.int (if i < 0 then -i else i)) H) bAbs := fun HA G H vs ls sb r => by
  unfold bAbs
  split
  · rename_i i
    obtain ⟨x, rfl, r1⟩ := wrs1 r
    rw [DR.toInt r1]
    exact okI_now sb fun Q q => ⟨i, rfl, q⟩
  · exact EvG.stk
end
end PD
/-! enumerate of a tuple -/
namespace PySem
open Sem (wp)
open Builtin Builtin.Str
theorem pd_meets_enum {v : Value} {o : Obj} {H : Heap → Prop} (B : Begins v o H) :
    Meets (Builtin.«enumerate.__new__» ⟨[.type "enumerate", v], []⟩) (fun _ R s => H s.heap ∧
      R (.ok (.ret (.ref (s.heap.push o).objs.size))) { s with heap := (s.heap.push o).push { cls := .type "enumerate", data := .fields #[.none, .bool false, .ref s.heap.objs.size, rawInt 0, .none, .none] } }) :=
  .of_wp fun prog w A R s h => by
    obtain ⟨hp, g, d, tk, os⟩ := s; obtain ⟨h1, h⟩ := h
    have hsub := sub_enumerate
    have q1 : ∀ {A' : Around} {E : Value → Shared → Prop} {Q : Value → Shared → Prop}, Q (.ref hp.objs.size) ⟨hp.push o, g, d, tk, os⟩ → wpAny (model prog w) A' (pyIter v) Q E ⟨hp, g, d, tk, os⟩ :=
      fun q => B.iter prog w _ _ ⟨hp, g, d, tk, os⟩ _ h1 q
    wp_walk using q1
    refine wpAny_stack_any fun st => wpAny_pure ?_
    split
    · rename_i c _ _ _ _ _
      cases (c == Value.type "enumerate")
      · wp_walk using q1
        exact ⟨_, rfl, h⟩
      · wp_walk using q1
        exact ⟨_, rfl, h⟩
    · wp_walk using q1
      exact ⟨_, rfl, h⟩
section
variable {prog : Program} {w : World} {A : Around} {E : Value → Shared → Prop} {s : Shared}
theorem pd_enum_begins {a : Addr} {items : Array Value} {Q : Value → Shared → Prop} (h1 : s.heap.IsTuple a items)
    (h : ∀ h', IsEnum h' (s.heap.objs.size + 1) s.heap.objs.size 0 .none → h'.get? s.heap.objs.size = some { cls := .type "tuple_iterator", data := .fields #[.ref a, .int 0 0] } → h'.objs.size = s.heap.objs.size + 2 →
      (∀ b o, s.heap.get? b = some o → h'.get? b = some o) → Q (.ref (s.heap.objs.size + 1)) { s with heap := h' }) :
    wpAny (model prog w) A (call (.type "enumerate") [.ref a]) Q E s := by
  refine callType_new F.called_enumerate (by decide) (F.typeCall_enumerate_1 _) (F.newCall_enumerate_1 _) (fun obj => F.args_object_init_2 obj _) F.entry_enumerate_new
    (pd_meets_enum (begins_tuple a items)) ⟨h1, ?_⟩
  have hz : (s.heap.push { cls := .type "tuple_iterator", data := .fields #[.ref a, .int 0 0] }).objs.size = s.heap.objs.size + 1 := Heap.size_push ..
  show _ ∧ _
  rw [hz]
  have he : IsEnum ((s.heap.push { cls := .type "tuple_iterator", data := .fields #[.ref a, .int 0 0] }).push { cls := .type "enumerate", data := .fields #[.none, .bool false, .ref s.heap.objs.size, rawInt 0, .none, .none] }) (s.heap.objs.size + 1) s.heap.objs.size 0 .none := by
    have := Heap.get?_push_size (s.heap.push { cls := .type "tuple_iterator", data := .fields #[.ref a, .int 0 0] }) (o := { cls := .type "enumerate", data := .fields #[.none, .bool false, .ref s.heap.objs.size, rawInt 0, .none, .none] }) rfl
    rw [hz] at this; exact this
  refine ⟨⟨_, he, rfl⟩, h _ he (Heap.get?_push_of_some _ (Heap.get?_push_size _ rfl)) (by rw [Heap.size_push, hz]) fun b o x => Heap.get?_push_of_some _ (Heap.get?_push_of_some _ x)⟩
end
end PySem
namespace PD
open PySem PySem.Spec PyProof.Rows L2
def IteT (K : PySem.W.Frag) (a : Addr) : It :=
  ⟨fun i H => ∃ (xs : List V) (x : V), SqT K H a xs ∧ xs[i]? = some x, fun i H v H' => ∃ T x, v = .ref T ∧ H T = none ∧ H' = upd H T (.tup [.int (i : Nat), x]) ∧ ∀ xs, SqT K H a xs → xs[i]? = some x, fun i H => ∃ xs : List V, SqT K H a xs ∧ xs.length ≤ i⟩
theorem isTup_isTuple {h : Heap} {a : Addr} {items : Array Value} (p : IsTup h a items) : h.IsTuple a items := p
theorem turn_enumT {P : Program} {w : World} {K : PySem.W.Frag} {elts : List Expr} {kk : Nat} {tpos : Pos} (a e it : Addr) :
    Turn P w K (.Tuple elts kk tpos) (IteT K a) [e, it] e (fun i h => (∃ old, IsEnum h e it ((i : Nat) : Int) old) ∧ h.IsTupleIter it a i ∧ e ≠ it ∧ a ≠ it) where
  mem := by simp
  obj := fun i h st b hb => by
    obtain ⟨⟨old, he⟩, ⟨o, ho, hc, hd⟩, _⟩ := st
    have e' : b = e ∨ b = it := by simpa using hb
    rcases e' with z | z
    · rw [z]; exact ⟨_, he, fun v q => nomatch q⟩
    · rw [z]; exact ⟨o, ho, fun v q => by rw [hd] at q; cases q⟩
  keep := fun i h h' st k => let ⟨⟨old, he⟩, hi, hne⟩ := st; ⟨⟨old, k e (by simp) _ he⟩, hi.at fun o q => k it (by simp) o q, hne⟩
  item := by
    intro X hP hw hK hc i pins s σ H E I hf st hg
    subst hP hw hK
    obtain ⟨⟨old, he⟩, hit, hne, hna⟩ := st
    obtain ⟨xs, x, hq, hx⟩ := hg
    obtain ⟨its, rv, p, hz⟩ := I.tuple hq
    obtain ⟨u, hu, ru⟩ := rv.get hx
    have hel : e < s.heap.objs.size := Heap.lt_size he
    have hil : it < s.heap.objs.size := by obtain ⟨_, q, _⟩ := hit; exact Heap.lt_size q
    have hlt : i < its.toArray.size := by
      rw [List.size_toArray]
      exact (List.getElem?_eq_some_iff.mp hu).1
    obtain ⟨ob, hob, hcb, nb, hdb⟩ := isTup_isTuple p
    have hae : e ≠ a := fun z => by
      rw [← z, he] at hob
      cases hob
      exact absurd (Value.type.inj hcb) (by decide)
    refine wpAny_pyNext_enum_itemD (Draws.tuple (A := X.A.in1) (show X.A.in1.handled = none from I.ok.hd hc) it a hna its.toArray) he ⟨hit, isTup_isTuple p⟩ hlt hne (by simp [hne, hae]) fun x2 h' tk hP ho hst hT hsz hk => ?_
    have ex : x2 = u := by
      have h1 : its.toArray[i]? = some u := by simpa using hu
      exact Option.some.inj (hP.symm.trans h1)
    subst ex
    refine ⟨_, rfl, wpAny_letOwnedTupleGo_enum (s := { s with heap := h', toks := tk + 1 }) ho fun h'' he' sb => ?_⟩
    have hT2 : h''.get? s.heap.objs.size = some { cls := .type "tuple", data := .seq #[.int i tk, x2] } := (sb.2 _ (Nat.ne_of_gt hel)).trans hT
    have new : ObjOk X.prog X.w (upd H s.heap.objs.size (.tup [.int (i : Nat), x])) h'' s.heap.objs.size (.tup [.int (i : Nat), x]) :=
      ⟨by show 2 ≤ sizeLine; decide, [.int i tk, x2], .cons ⟨_, rfl⟩ (.cons ru .nil), ⟨_, hT2, rfl, _, rfl⟩⟩
    have I1 : Inv X pins σ (upd H s.heap.objs.size (.tup [.int (i : Nat), x])) { s with heap := h'', toks := tk + 1 } :=
      I.turnedNew (ch := [e, it]) (fun b ob hb q => (sb.2 b (fun z => hb (by simp [z]))).trans (hk b ob (fun z => hb (by simp [z])) (fun z => hb (by simp [z])) q)) hf (Nat.le_refl _) new
    refine ⟨.ref s.heap.objs.size, _, I1, rfl, ⟨_, x, rfl, I.hok.fresh (Nat.le_refl _), rfl, fun ys hy => by rw [I.tuple_inj hy hq]; exact hx⟩, ⟨⟨x2, ?_⟩, hst.1.at fun o q => (sb.2 it (Ne.symm hne)).trans q, hne, hna⟩, fun b hb => ?_⟩
    · have e1 : ((i + 1 : Nat) : Int) = (i : Int) + 1 := by omega
      rw [e1]; exact he'
    · have hb' : b < s.heap.objs.size := by
        have e' : b = e ∨ b = it := by simpa using hb
        rcases e' with z | z
        · rw [z]; exact hel
        · rw [z]; exact hil
      rw [upd_ne (Nat.ne_of_lt hb')]
      exact (hf b hb).1
  done := by
    intro X hP hw hK hc i pins s σ H E I hf st hg
    subst hP hw hK
    obtain ⟨⟨old, he⟩, hit, hne, hna⟩ := st
    obtain ⟨xs, hq, hx⟩ := hg
    obtain ⟨its, rv, p, hz⟩ := I.tuple hq
    obtain ⟨f0, f1, f2, f3, f4, f5⟩ := hf it (by simp)
    have hl := rv.length
    have hst : its.toArray.size ≤ i := by rw [List.size_toArray]; omega
    have hT : s.TypeIs (.ref e) "enumerate" := ⟨_, he, rfl⟩
    unfold pyNext
    refine wpAny_bind (wpAny_attempt (wpAny_callSpecial?_slot (name := Str.ofString "__next__") hT F.slot_enumerate_next
      (wpAny_call_entry F.slot_enumerate_next hT F.entry_enumerate_next ?_ (F.args_enumerate_next_1 _))))
    show wpAny _ _ (field (.ref e) 2 >>= _) _ _ _
    refine wpAny_bind (wpAny_field he rfl (x := .ref it) rfl ?_)
    refine wpAny_bind (wpAny_nextOf_tuple_end (I.ok.hd hc) hit (isTup_isTuple p) (by simp; omega) fun h' x hx' he' => ?_)
    obtain ⟨o, ho, hc2⟩ := he'
    refine wpAny_bind (wpAny_isInstance (T := "StopIteration") (b := true) ⟨o, ho, hc2⟩ isSubtype_stop ?_)
    exact wpAny_pure ⟨rfl, I.turned (t' := s.toks) (fun b o hb q => hx' b o hb q) f0 f1 f3 f4 f5⟩
  self := fun A i s Q E st h => let ⟨⟨_, he⟩, _⟩ := st; wpAny_pyIter_enum he h
def iEnumT (K : PySem.W.Frag) (ta : TA) : TI := fun σ H R => ta σ H fun vs H1 => ∃ a xs, vs = [.ref a] ∧ SqT K H1 a xs ∧ R (IteT K a) H1
theorem pi_enumT {X : Cx} {e : Expr} {ta : TA} {p pos tpos : Pos} {elts : List Expr} {kk : Nat} (hg : Gl X "enumerate") (hm : X.mg "enumerate" = none) (ha : PA X [e] ta) (hs : starEach [e] X.env = [(false, eval e X.env)]) :
    PI X (.Tuple elts kk tpos) (.Call (.Name "enumerate" p) [e] [] pos) (iEnumT X.K ta) := by
  refine ⟨fun pins s σ H R I h => ?_⟩
  refine Call_ (ld_blt I hg hm boot_enumerate (PyProof.Rows.callWith_type1 (thn (ha.run pos pins s σ H _ I h) fun us s1 ⟨vs, H1, I1, r1, q1⟩ => ?_) hs rfl))
  obtain ⟨a, xs, ex, hq, q⟩ := q1
  subst ex
  cases r1 with
  | cons r rr =>
    cases rr
    cases r
    obtain ⟨its, rv, p', hz⟩ := I1.tuple hq
    refine pd_enum_begins (isTup_isTuple p') fun h' he hit hsz hk => wpAny_pyIter_enum he ?_
    have I2 : Inv X pins σ H1 { s1 with heap := h' } := I1.kept (t' := s1.toks) hk
    refine ⟨s1.heap.objs.size + 1, [s1.heap.objs.size + 1, s1.heap.objs.size], _, _, H1, rfl, I2, turn_enumT a (s1.heap.objs.size + 1) s1.heap.objs.size, ⟨⟨.none, he⟩, ⟨_, hit, rfl, rfl⟩, Nat.succ_ne_self _, Nat.ne_of_lt p'.lt⟩, fun b hb => ?_, q⟩
    have e' : b = s1.heap.objs.size + 1 ∨ b = s1.heap.objs.size := by simpa using hb
    have hle : s1.heap.objs.size ≤ b := by
      rcases e' with z | z
      · rw [z]; exact Nat.le_add_right _ _
      · rw [z]; exact Nat.le_refl _
    exact I1.fpOk hle (I1.hok.fresh hle)
theorem walk_enumT {K : PySem.W.Frag} {a : Addr} {xs : List V} : Walk (IteT K a) xs.length (fun H => SqT K H a xs) (YPair (fun i => some (.int (i : Nat))) (fun i => xs[i]?)) := by
  refine ⟨fun i _ hi q => ⟨xs, xs[i], q, by simp [hi]⟩, fun _ q => ⟨xs, q, Nat.le_refl _⟩, fun i H v H' _ q y => ?_⟩
  obtain ⟨T, x, h1, h2, h3, h4⟩ := y
  exact ⟨T, .int (i : Nat), x, h1, h2, h3, rfl, h4 xs q⟩
theorem walk_zipT {K : PySem.W.Frag} {a b : Addr} {xs ys : List V} {n : Nat} (hn : n = min xs.length ys.length) : Walk (RZ.ItzT K a b) n (fun H => SqT K H a xs ∧ SqT K H b ys) (YPair (fun i => xs[i]?) (fun i => ys[i]?)) := by
  subst hn
  refine ⟨fun i _ hi q => ?_, fun _ q => ⟨xs, ys, q.1, q.2, by omega⟩, fun i H v H' _ q y => ?_⟩
  · have h1 : i < xs.length := by omega
    have h2 : i < ys.length := by omega
    exact ⟨xs, ys, xs[i], ys[i], q.1, q.2, by simp [h1], by simp [h2]⟩
  · obtain ⟨T, x, z, h1, h2, h3, h4, h5⟩ := y
    exact ⟨T, x, z, h1, h2, h3, h4 xs q.1, h5 ys q.2⟩
end PD
/-! zip of a list and a tuple, over the library's drawing iterators -/
namespace PD
open PySem PySem.Spec PyProof.Rows L2
def ItzLT (K : PySem.W.Frag) (a b : Addr) : It :=
  ⟨fun i H => ∃ (xs ys : List V) (x y : V), SqL K H a xs ∧ SqT K H b ys ∧ xs[i]? = some x ∧ ys[i]? = some y,
    fun i H v H' => ∃ T x y, v = .ref T ∧ H T = none ∧ H' = upd H T (.tup [x, y]) ∧ (∀ xs, SqL K H a xs → xs[i]? = some x) ∧ ∀ ys, SqT K H b ys → ys[i]? = some y,
    fun i H => ∃ xs ys : List V, SqL K H a xs ∧ SqT K H b ys ∧ i = min xs.length ys.length⟩
theorem sep_of {z TI TO i1 i2 a b : Addr} (D : ZipApart z TI TO i1 i2 a b) : PySem.ZipSep2 z TI TO i1 i2 [i1, a] [i2, b] where
  TIz := D.TIz
  TOz := D.TOz
  TITO := D.TITO
  TIi1 := D.TIi1
  mem1 := by simp
  zf1 := by simp [D.i1z.symm, D.l1z.symm]
  Tf1 := by simp [D.TOi1, D.l1TO.symm]
  TIi2 := D.TIi2
  mem2 := by simp
  zf2 := by simp [D.i2z.symm, D.l2z.symm]
  Tf2 := by simp [D.TOi2, D.l2TO.symm]
  sep1_2 := by simp [D.i12, D.l2i1.symm]
  sep2_1 := by simp [D.i12.symm, D.l1i2.symm]
theorem five {z TI TO i1 i2 c : Addr} (hc : c ∈ [z, TI, TO, i1, i2]) : c = z ∨ c = TI ∨ c = TO ∨ c = i1 ∨ c = i2 := by simpa using hc
theorem turn_zipLT {P : Program} {w : World} {K : PySem.W.Frag} {elts : List Expr} {kk : Nat} {tpos : Pos} {a b z TI TO i1 i2 : Addr} (D : ZipApart z TI TO i1 i2 a b) :
    Turn P w K (.Tuple elts kk tpos) (ItzLT K a b) [z, TI, TO, i1, i2] z (fun i h => IsZip h z TI TO .none ∧ PySem.IsTupOf2 h TI (.ref i1) (.ref i2) ∧ (∃ x y, PySem.IsTupOf2 h TO x y) ∧ h.IsListIter i1 a i ∧ h.IsTupleIter i2 b i) where
  mem := by simp
  obj := fun i h st c hc => by
    obtain ⟨hz, hTI, ⟨x, y, hTO⟩, ⟨o1, e1, _, d1⟩, ⟨o2, e2, _, d2⟩⟩ := st
    rcases five hc with q | q | q | q | q
    · subst q; exact ⟨_, hz, fun v q => nomatch q⟩
    · subst q; exact ⟨_, hTI, fun v q => nomatch q⟩
    · subst q; exact ⟨_, hTO, fun v q => nomatch q⟩
    · subst q; exact ⟨o1, e1, fun v q => by rw [d1] at q; cases q⟩
    · subst q; exact ⟨o2, e2, fun v q => by rw [d2] at q; cases q⟩
  keep := fun i h h' ⟨hz, hTI, ⟨x, y, hTO⟩, h1, h2⟩ k =>
    ⟨k z (by simp) _ hz, k TI (by simp) _ hTI, ⟨x, y, k TO (by simp) _ hTO⟩, h1.at fun o q => k i1 (by simp) o q, h2.at fun o q => k i2 (by simp) o q⟩
  item := by
    intro X hP hw hK hc i pins s σ H E I hf st hg
    subst hP hw hK
    obtain ⟨hz, hTI, ⟨x0, y0, hTO⟩, h1, h2⟩ := st
    obtain ⟨xs, ys, x, y, hqx, hqy, hx, hy⟩ := hg
    obtain ⟨its, rv, p, _⟩ := I.list hqx
    obtain ⟨its2, rv2, p2, _⟩ := I.tuple hqy
    obtain ⟨u, hu, ru⟩ := rv.get hx
    obtain ⟨u2, hu2, ru2⟩ := rv2.get hy
    have hzl : z < s.heap.objs.size := Heap.lt_size hz
    have hd : X.A.in1.handled = none := I.ok.hd hc
    have l1 : i < its.toArray.size := by
      have := (List.getElem?_eq_some_iff.mp hu).1
      simpa using this
    have l2 : i < its2.toArray.size := by
      have := (List.getElem?_eq_some_iff.mp hu2).1
      simpa using this
    refine PySem.wpAny_pyNext_zipD2_item (sep_of D) (Draws.list hd i1 a D.l1i1 its.toArray) (Draws.tuple hd i2 b D.l2i2 its2.toArray) hz hTI hTO ⟨h1, p.isList⟩ ⟨h2, isTup_isTuple p2⟩ l1 l2 fun x1 x2 h' tk e1 e2 z' TO' s1 s2 hT hsz hk => ?_
    obtain rfl : x1 = u := Option.some.inj (e1.symm.trans (by simpa using hu))
    obtain rfl : x2 = u2 := Option.some.inj (e2.symm.trans (by simpa using hu2))
    refine ⟨_, rfl, wpAny_letOwnedTupleGo_zip (s := { s with heap := h', toks := tk }) z' fun h'' z'' sb => ?_⟩
    have hT2 : h''.get? s.heap.objs.size = some { cls := .type "tuple", data := .seq #[x1, x2] } := (sb.2 _ (Nat.ne_of_gt hzl)).trans hT
    have new : ObjOk X.prog X.w (upd H s.heap.objs.size (.tup [x, y])) h'' s.heap.objs.size (.tup [x, y]) :=
      ⟨by show 2 ≤ sizeLine; decide, [x1, x2], .cons ru (.cons ru2 .nil), ⟨_, hT2, rfl, _, rfl⟩⟩
    have I1 : Inv X pins σ (upd H s.heap.objs.size (.tup [x, y])) { s with heap := h'', toks := tk } :=
      I.turnedNew (ch := [z, TI, TO, i1, i2]) (fun c o hb q => (sb.2 c (fun q' => hb (by simp [q']))).trans (hk c o (fun q' => hb (by simp [q'])) (fun q' => hb (by simp [q'])) (fun q' => hb (by simp [q'])) (fun q' => hb (by simp [q'])) q)) hf (Nat.le_refl _) new
    refine ⟨.ref s.heap.objs.size, _, I1, rfl, ⟨_, x, y, rfl, I.hok.fresh (Nat.le_refl _), rfl, fun l hl => by rw [I.list_inj hl hqx]; exact hx, fun l hl => by rw [I.tuple_inj hl hqy]; exact hy⟩, ⟨z'', ?_, ⟨x1, x2, ?_⟩, ?_, ?_⟩, fun c hcm => ?_⟩
    · exact (sb.2 _ D.TIz).trans (hk _ _ D.TIz D.TITO D.TIi1 D.TIi2 hTI)
    · exact (sb.2 _ D.TOz).trans TO'
    · exact s1.1.at fun o q => (sb.2 _ D.i1z).trans q
    · exact s2.1.at fun o q => (sb.2 _ D.i2z).trans q
    · have hlt : c < s.heap.objs.size := by
        rcases five hcm with q | q | q | q | q
        · rw [q]; exact hzl
        · rw [q]; exact Heap.lt_size hTI
        · rw [q]; exact Heap.lt_size hTO
        · rw [q]; obtain ⟨_, e1, _⟩ := h1; exact Heap.lt_size e1
        · rw [q]; obtain ⟨_, e2, _⟩ := h2; exact Heap.lt_size e2
      rw [upd_ne (Nat.ne_of_lt hlt)]
      exact (hf c hcm).1
  done := by
    intro X hP hw hK hc i pins s σ H E I hf st hg
    subst hP hw hK
    obtain ⟨hz, hTI, ⟨x0, y0, hTO⟩, h1, h2⟩ := st
    obtain ⟨xs, ys, hqx, hqy, hend⟩ := hg
    obtain ⟨its, rv, p, _⟩ := I.list hqx
    obtain ⟨its2, rv2, p2, _⟩ := I.tuple hqy
    have l1 := rv.length
    have l2 := rv2.length
    have hd : X.A.in1.handled = none := I.ok.hd hc
    refine PySem.wpAny_pyNext_zipD2_end (sep_of D) (Draws.list hd i1 a D.l1i1 its.toArray) (Draws.tuple hd i2 b D.l2i2 its2.toArray) hz hTI hTO ⟨h1, p.isList⟩ ⟨h2, isTup_isTuple p2⟩ (by rw [List.size_toArray]; omega) (by rw [List.size_toArray]; omega) (by rw [List.size_toArray, List.size_toArray]; omega) fun h' tk hk => ⟨rfl, I.turnedL (ch := [z, TI, TO, i1, i2]) (fun c o hb q =>
      hk c o (fun q' => hb (by simp [q'])) (fun q' => hb (by simp [q'])) (fun q' => hb (by simp [q'])) (fun q' => hb (by simp [q'])) q) hf⟩
  self := fun A i s Q E st h => wpAny_pyIter_zip st.1 h
def iZipM (K : PySem.W.Frag) (ta : TA) : TI := fun σ H R => ta σ H fun vs H1 => ∃ a b xs ys, vs = [.ref a, .ref b] ∧ ((SqL K H1 a xs ∧ SqL K H1 b ys ∧ R (Itz K a b) H1) ∨ (SqT K H1 a xs ∧ SqT K H1 b ys ∧ R (RZ.ItzT K a b) H1) ∨ (SqL K H1 a xs ∧ SqT K H1 b ys ∧ R (ItzLT K a b) H1))
theorem pi_zipM {X : Cx} {e e2 : Expr} {ta : TA} {p pos tpos : Pos} {elts : List Expr} {kk : Nat} (hg : Gl X "zip") (hm : X.mg "zip" = none) (ha : PA X [e, e2] ta)
    (hs : starEach [e, e2] X.env = (false, eval e X.env) :: starEach [e2] X.env) (hpl : (backTo pos (starEach [e2] X.env)).any (·.1) = false) :
    PI X (.Tuple elts kk tpos) (.Call (.Name "zip" p) [e, e2] [] pos) (iZipM X.K ta) := by
  have hA := RZ.pi_zipA (X := X) (elts := elts) (kk := kk) (tpos := tpos) (p := p) (pos := pos) hg hm ha hs hpl
  refine ⟨fun pins s σ H R I h => ?_⟩
  refine Call_ (ld_blt I hg hm PyProof.Rows.boot_zip (PyProof.Rows.callWith_type1 (thn (ha.run pos pins s σ H _ I h) fun us s1 ⟨vs, H1, I1, r1, q1⟩ => ?_) hs hpl))
  obtain ⟨a, b, xs, ys, ex, q1⟩ := q1
  subst ex
  obtain ⟨u1, us', rfl, ra, r2⟩ : ∃ u us', us = u :: us' ∧ RelV (.ref a) u ∧ Vals [V.ref b] us' := by
    cases r1 with
    | cons r rr => exact ⟨_, _, rfl, r, rr⟩
  obtain ⟨u2, rfl, rb⟩ : ∃ u, us' = [u] ∧ RelV (.ref b) u := by
    cases r2 with
    | cons r rr => cases rr; exact ⟨_, rfl, r⟩
  obtain rfl : u1 = .ref a := ra
  obtain rfl : u2 = .ref b := rb
  have fresh5 : ∀ c, c ∈ [s1.heap.objs.size + 4, s1.heap.objs.size + 2, s1.heap.objs.size + 3, s1.heap.objs.size, s1.heap.objs.size + 1] → FpOk X pins H1 c := fun c hcm => by
    have hle : s1.heap.objs.size ≤ c := by
      rcases five hcm with z | z | z | z | z <;> rw [z] <;> first | exact Nat.le_add_right _ _ | exact Nat.le_refl _
    exact I1.fpOk hle (I1.hok.fresh hle)
  rcases q1 with ⟨hqx, hqy, q⟩ | ⟨hqx, hqy, q⟩ | ⟨hqx, hqy, q⟩
  · obtain ⟨its, rv, p1, _⟩ := I1.list hqx
    obtain ⟨its2, rv2, p2, _⟩ := I1.list hqy
    refine call_zip_2 p1.isList p2.isList fun h' hz hTI hTO h1 h2 hsz hk => wpAny_pyIter_zip hz ?_
    exact ⟨_, _, _, _, H1, rfl, I1.kept (t' := s1.toks) hk, turn_zip (PySem.W.ktu_apart s1.heap.objs.size a b p1.lt p2.lt), ⟨hz, hTI, ⟨_, _, hTO⟩, h1, h2⟩, fresh5, q⟩
  · obtain ⟨its, rv, p1, _⟩ := I1.tuple hqx
    obtain ⟨its2, rv2, p2, _⟩ := I1.tuple hqy
    refine RZ.call_zipT (isTup_isTuple p1) (isTup_isTuple p2) fun h' hz hTI hTO h1 h2 hsz hk => wpAny_pyIter_zip hz ?_
    exact ⟨_, _, _, _, H1, rfl, I1.kept (t' := s1.toks) hk, RZ.turn_zipT (PySem.W.ktu_apart s1.heap.objs.size a b p1.lt p2.lt), ⟨hz, hTI, ⟨_, _, hTO⟩, h1, h2⟩, fresh5, q⟩
  · obtain ⟨its, rv, p1, _⟩ := I1.list hqx
    obtain ⟨its2, rv2, p2, _⟩ := I1.tuple hqy
    refine PySem.zip_begins2 (PySem.begins_list a its.toArray) (PySem.begins_tuple b its2.toArray) p1.isList (isTup_isTuple p2) fun h' hz hTI hTO h1 h2 hsz hk => wpAny_pyIter_zip hz ?_
    exact ⟨_, _, _, _, H1, rfl, I1.kept (t' := s1.toks) hk, turn_zipLT (PySem.W.ktu_apart s1.heap.objs.size a b p1.lt p2.lt), ⟨hz, hTI, ⟨_, _, hTO⟩, ⟨_, h1, rfl, rfl⟩, ⟨_, h2, rfl, rfl⟩⟩, fresh5, q⟩
theorem walk_zipLT {K : PySem.W.Frag} {a b : Addr} {xs ys : List V} {n : Nat} (hn : n = min xs.length ys.length) : Walk (ItzLT K a b) n (fun H => SqL K H a xs ∧ SqT K H b ys) (YPair (fun i => xs[i]?) (fun i => ys[i]?)) := by
  subst hn
  refine ⟨fun i H hi hG => ⟨xs, ys, xs[i]'(by omega), ys[i]'(by omega), hG.1, hG.2, List.getElem?_eq_getElem _, List.getElem?_eq_getElem _⟩, fun H hG => ⟨xs, ys, hG.1, hG.2, rfl⟩, ?_⟩
  rintro i H v H' hi hG ⟨T, x, z, h1, h2, h3, h4, h5⟩
  exact ⟨T, x, z, h1, h2, h3, h4 xs hG.1, h5 ys hG.2⟩
end PD
/-! tests, targets, what is walked, comprehensions -/
namespace PD
open PySem PySem.Spec PyProof.Rows L2
abbrev IF := List L → M (List D)
abbrev GF := D → List L → M (List L)
/-! ### tests -/
def boolL : L → M Bool
  | .d (.bool b) => .ok b
  | _ => .stuck
def tVal (f : EF) : TF := fun env => (f env).bind boolL
def tAn (f g : TF) : TF := fun env => (f env).bind fun a => if a then g env else .ok false
def tOr (f g : TF) : TF := fun env => (f env).bind fun a => if a then .ok true else g env
def tNt (f : TF) : TF := fun env => (f env).bind fun a => .ok (!a)
def tTrue : TF := fun _ => .ok true
def eIf (t : TF) (f g : EF) : EF := fun env => (t env).bind fun b => if b then f env else g env
def eAn (f g : EF) : EF := fun env => (f env).bind fun a => (boolL a).bind fun b => if b then g env else okB false
def eOr (f g : EF) : EF := fun env => (f env).bind fun a => (boolL a).bind fun b => if b then okB true else g env
def eNt (f : EF) : EF := fun env => (f env).bind fun a => (boolL a).bind fun b => okB (!b)
def eChain (op op' : L → L → M L) (f g h : EF) : EF := fun env => (f env).bind fun a => (g env).bind fun b => (op a b).bind fun z => (boolL z).bind fun r => if r then (h env).bind fun c => op' b c else okB false
section
variable {S : Sys} {k : Nat} {E : XK} {cc : CC} {sc : SC}
theorem boolL_ok {HA G H : Hp} {x : V} {l : L} {b : Bool} (r : WR S HA G H x l) (e : boolL l = .ok b) : x = .bl b := by
  unfold boolL at e
  split at e
  · cases e
    exact DR.toBl r
  · cases e
theorem boolL_ex {l : L} {c : Str} : boolL l ≠ .ex c := fun z => by
  unfold boolL at z
  split at z <;> cases z
theorem evB_of {t : TE} {σ : L2.St} {G H : Hp} {r : M L} (h : EvW S E t σ G H r) : EvB S E (fun σ H Q => t σ H fun x H' => ∃ k, x = .bl k ∧ Q k H') σ G H (r.bind boolL) := by
  refine EvG.bind (tq := t σ H) (k := fun x H1 Q => ∃ k, x = .bl k ∧ Q k H1) h fun x l G2 H2 _ x2 r2 => ⟨G2, x2, ?_⟩
  cases e : boolL l with
  | stuck => exact EvG.stk
  | ex c => exact absurd e boolL_ex
  | ok b => exact EvG.now x2.gh fun Q q => ⟨b, boolL_ok r2 e, q b rfl⟩
def plainT : Expr → Bool
  | .UnaryOp .Not _ _ => false
  | .BoolOp _ _ _ => false
  | .IfExp _ _ _ _ => false
  | .Compare _ _ _ _ => false
  | _ => true
theorem plainT_ok {e : Expr} {env : Env} (h : plainT e = true) : ∀ whole, isTrue e env whole = (do let v ← whole; standAt e.pos; holding [v] (truthy v)) := by
  intro whole
  cases e with
  | UnaryOp op x p => cases op <;> first | rfl | cases h
  | BoolOp op es p => cases h
  | IfExp a b c p => cases h
  | Compare a b c p => cases h
  | _ => rfl
theorem ct_val {e : Expr} {f : EF} (p : plainT e = true) (h : CE S k E cc sc e f) : CT S k E cc sc e (tVal f) := by
  obtain ⟨t, pe, v⟩ := h
  exact ⟨tB t, fun X c => pt_val (pe X c) (plainT_ok p), fun H0 G H σ env at0 => evB_of (v H0 G H σ env at0)⟩
/-- a comparison, as a value and as a test -/
theorem ce_cmp {op : CmpOp} {r : R2} {f' : L → L → M L} {a b : Expr} {f g : EF} {pos : Pos} (ho : ∀ X, CtxOk S k E cc sc X → OpR X (compareOp op) r) (hs : OpS S E r f') (hm : behindInMarks op b = false) (ha : CE S k E cc sc a f) (hb : CE S k E cc sc b g) :
    CE S k E cc sc (.Compare a [op] [b] pos) (eBin f' f g) := ce_op (fun X c ta tb pa pb => pe_cmpR (ho X c) pa pb hm) hs ha hb
theorem ct_cmp {op : CmpOp} {r : R2} {f' : L → L → M L} {a b : Expr} {f g : EF} {pos : Pos} (ho : ∀ X, CtxOk S k E cc sc X → OpR X (compareOp op) r) (hs : OpS S E r f') (hm : behindInMarks op b = false) (ha : CE S k E cc sc a f) (hb : CE S k E cc sc b g) :
    CT S k E cc sc (.Compare a [op] [b] pos) (tVal (eBin f' f g)) := by
  obtain ⟨ta, pa, va⟩ := ha
  obtain ⟨tb, pb, vb⟩ := hb
  refine ⟨tTest (tOp r ta tb), fun X c => pt_cmpR (ho X c) (pa X c) (pb X c) hm, fun H0 G H σ env at0 => evB_of (t := tOp r ta tb) ?_⟩
  refine EvG.bind (tq := ta σ H) (k := fun x H1 Q => tb σ H1 fun y H2 => r x y H2 Q) (va H0 G H σ env at0) fun x l G2 H2 _ x2 r2 => ⟨G2, x2, ?_⟩
  refine EvG.bind (tq := tb σ H2) (k := fun y H2 Q => r x y H2 Q) (vb H0 G2 H2 σ env (at0.up x2)) fun y l2 G3 H3 _ x3 r3 => ⟨G3, x3, ?_⟩
  exact (hs _ _ G3 H3 x y l l2 x3.gh (r2.up x3) r3).weak (bk_W S) fun p h => x2.dom p (x3.dom p h)
theorem ev_chain {r r' : R2} {o o' : L → L → M L} {ta tb tc : TE} {f g h : EF} (hs : OpS S E r o) (hs' : OpS S E r' o')
    (va : ∀ H0 G H σ env, At S H0 G H σ env → EvW S E ta σ G H (f env)) (vb : ∀ H0 G H σ env, At S H0 G H σ env → EvW S E tb σ G H (g env)) (vc : ∀ H0 G H σ env, At S H0 G H σ env → EvW S E tc σ G H (h env)) :
    ∀ H0 G H σ env, At S H0 G H σ env → EvW S E (tChain r r' ta tb tc) σ G H (eChain o o' f g h env) := fun H0 G H σ env at0 => by
  refine EvG.bind (tq := ta σ H) (k := fun x H1 Q => tb σ H1 fun y H2 => r x y H2 fun z H3 => ∃ k, z = .bl k ∧ (if k = true then tc σ H3 fun w' H4 => r' y w' H4 Q else Q (.bl false) H3)) (va H0 G H σ env at0) fun x l G2 H2 _ x2 r2 => ⟨G2, x2, ?_⟩
  refine EvG.bind (tq := tb σ H2) (k := fun y H2 Q => r x y H2 fun z H3 => ∃ k, z = .bl k ∧ (if k = true then tc σ H3 fun w' H4 => r' y w' H4 Q else Q (.bl false) H3)) (vb H0 G2 H2 σ env (at0.up x2)) fun y l2 G3 H3 _ x3 r3 => ⟨G3, x3, ?_⟩
  refine EvG.bind (tq := r x y H3) (k := fun z H3 Q => ∃ k, z = .bl k ∧ (if k = true then tc σ H3 fun w' H4 => r' y w' H4 Q else Q (.bl false) H3)) (hs _ _ G3 H3 x y l l2 x3.gh (r2.up x3) r3) fun z lz G4 H4 _ x4 r4 => ⟨G4, x4, ?_⟩
  cases e : boolL lz with
  | stuck => exact EvG.stk
  | ex c => exact absurd e boolL_ex
  | ok b =>
    have ez := boolL_ok r4 e
    subst ez
    cases b with
    | false => exact okB_now (E := E) x4.gh fun Q q => ⟨false, rfl, q⟩
    | true =>
      show EvG S E (fun _ => WR S H) _ G4 H4 ((h env).bind fun c => o' l2 c)
      refine EvG.imp (tq := fun Q => tc σ H4 fun w' H4 => r' y w' H4 Q) ?_ fun Q q => ⟨true, rfl, q⟩
      refine EvG.bind (tq := tc σ H4) (k := fun w' H4 Q => r' y w' H4 Q) (vc H0 G4 H4 σ env (((at0.up x2).up x3).up x4)) fun w' lw G5 H5 _ x5 r5 => ⟨G5, x5, ?_⟩
      exact (hs' _ _ G5 H5 y w' l2 lw x5.gh ((r3.up x4).up x5) r5).weak (bk_W S) fun p h => x2.dom p (x3.dom p (x4.dom p (x5.dom p h)))
theorem ce_chain {op op' : CmpOp} {r r' : R2} {o o' : L → L → M L} {a b c : Expr} {f g h : EF} {pos : Pos} (ho : ∀ X, CtxOk S k E cc sc X → OpR X (compareOp op) r) (ho' : ∀ X, CtxOk S k E cc sc X → OpR X (compareOp op') r') (hs : OpS S E r o) (hs' : OpS S E r' o')
    (hm : lastMarks [op, op'] [b, c] = false) (ha : CE S k E cc sc a f) (hb : CE S k E cc sc b g) (hc : CE S k E cc sc c h) : CE S k E cc sc (.Compare a [op, op'] [b, c] pos) (eChain o o' f g h) := by
  obtain ⟨ta, pa, va⟩ := ha
  obtain ⟨tb, pb, vb⟩ := hb
  obtain ⟨tc, pc, vc⟩ := hc
  exact ⟨tChain r r' ta tb tc, fun X c => pe_chain (ho X c) (ho' X c) (pa X c) (pb X c) (pc X c) hm, ev_chain hs hs' va vb vc⟩
theorem ct_chain {op op' : CmpOp} {r r' : R2} {o o' : L → L → M L} {a b c : Expr} {f g h : EF} {pos : Pos} (ho : ∀ X, CtxOk S k E cc sc X → OpR X (compareOp op) r) (ho' : ∀ X, CtxOk S k E cc sc X → OpR X (compareOp op') r') (hs : OpS S E r o) (hs' : OpS S E r' o')
    (hm : lastMarks [op, op'] [b, c] = false) (ha : CE S k E cc sc a f) (hb : CE S k E cc sc b g) (hc : CE S k E cc sc c h) : CT S k E cc sc (.Compare a [op, op'] [b, c] pos) (tVal (eChain o o' f g h)) := by
  obtain ⟨ta, pa, va⟩ := ha
  obtain ⟨tb, pb, vb⟩ := hb
  obtain ⟨tc, pc, vc⟩ := hc
  exact ⟨tTest (tChain r r' ta tb tc), fun X c => pt_chain (ho X c) (ho' X c) (pa X c) (pb X c) (pc X c) hm, fun H0 G H σ env at0 => evB_of (ev_chain hs hs' va vb vc H0 G H σ env at0)⟩
/-- and, or as tests: over the rest of the row -/
def CW (S : Sys) (k : Nat) (E : XK) (cc : CC) (sc : SC) (e : Expr) (f : TF) : Prop := ∃ t : TT, (∀ X, CtxOk S k E cc sc X → PW X e t) ∧ ∀ H0 G H σ env, At S H0 G H σ env → EvB S E t σ G H (f env)
theorem CW.ct {e : Expr} {f : TF} (h : CW S k E cc sc e f) : CT S k E cc sc e f := by
  obtain ⟨t, p, v⟩ := h
  exact ⟨t, fun X c => (p X c).pt, v⟩
theorem cw_and1 {a : Expr} {f : TF} {pos : Pos} (h : CT S k E cc sc a f) : CW S k E cc sc (.BoolOp .And [a] pos) f := by
  obtain ⟨t, p, v⟩ := h
  exact ⟨t, fun X c => pw_and1 (p X c), v⟩
theorem cw_or1 {a : Expr} {f : TF} {pos : Pos} (h : CT S k E cc sc a f) : CW S k E cc sc (.BoolOp .Or [a] pos) f := by
  obtain ⟨t, p, v⟩ := h
  exact ⟨t, fun X c => pw_or1 (p X c), v⟩
theorem cw_and {a b : Expr} {rest : List Expr} {f g : TF} {pos : Pos} (ha : CT S k E cc sc a f) (hb : CW S k E cc sc (.BoolOp .And (b :: rest) pos) g) : CW S k E cc sc (.BoolOp .And (a :: b :: rest) pos) (tAn f g) := by
  obtain ⟨t, p, v⟩ := ha
  obtain ⟨u, q, w⟩ := hb
  refine ⟨tAnd t u, fun X c => pw_and (p X c) (q X c), fun H0 G H σ env at0 => ?_⟩
  refine EvG.bind (tq := t σ H) (k := fun c H1 Q => if c = true then u σ H1 Q else Q false H1) (v H0 G H σ env at0) fun x l G2 H2 _ x2 r2 => ⟨G2, x2, ?_⟩
  have e : x = l := r2
  subst e
  cases x with
  | true => exact w H0 G2 H2 σ env (at0.up x2)
  | false => exact EvG.now x2.gh fun Q q => q false rfl
theorem cw_or {a b : Expr} {rest : List Expr} {f g : TF} {pos : Pos} (ha : CT S k E cc sc a f) (hb : CW S k E cc sc (.BoolOp .Or (b :: rest) pos) g) : CW S k E cc sc (.BoolOp .Or (a :: b :: rest) pos) (tOr f g) := by
  obtain ⟨t, p, v⟩ := ha
  obtain ⟨u, q, w⟩ := hb
  refine ⟨L2.tOr t u, fun X c => pw_or (p X c) (q X c), fun H0 G H σ env at0 => ?_⟩
  refine EvG.bind (tq := t σ H) (k := fun c H1 Q => if c = true then Q true H1 else u σ H1 Q) (v H0 G H σ env at0) fun x l G2 H2 _ x2 r2 => ⟨G2, x2, ?_⟩
  have e : x = l := r2
  subst e
  cases x with
  | false => exact w H0 G2 H2 σ env (at0.up x2)
  | true => exact EvG.now x2.gh fun Q q => q true rfl
theorem ct_not {a : Expr} {f : TF} {pos : Pos} (ha : CT S k E cc sc a f) : CT S k E cc sc (.UnaryOp .Not a pos) (tNt f) := by
  obtain ⟨t, p, v⟩ := ha
  refine ⟨tNot t, fun X c => pt_not (p X c), fun H0 G H σ env at0 => ?_⟩
  refine EvG.bind (tq := t σ H) (k := fun c H1 Q => Q (!c) H1) (v H0 G H σ env at0) fun x l G2 H2 _ x2 r2 => ⟨G2, x2, ?_⟩
  have e : x = l := r2
  subst e
  exact EvG.now x2.gh fun Q q => q _ rfl
theorem ce_if {c a b : Expr} {t : TF} {f g : EF} {pos : Pos} (hc : CT S k E cc sc c t) (ha : CE S k E cc sc a f) (hb : CE S k E cc sc b g) : CE S k E cc sc (.IfExp c a b pos) (eIf t f g) := by
  obtain ⟨tt, pc, vc⟩ := hc
  obtain ⟨ta, pa, va⟩ := ha
  obtain ⟨tb, pb, vb⟩ := hb
  refine ⟨tIf tt ta tb, fun X c => pe_ifExp (pc X c) (pa X c) (pb X c), fun H0 G H σ env at0 => ?_⟩
  refine EvG.bind (tq := tt σ H) (k := fun c H1 Q => if c = true then ta σ H1 Q else tb σ H1 Q) (vc H0 G H σ env at0) fun x l G2 H2 _ x2 r2 => ⟨G2, x2, ?_⟩
  have e : x = l := r2
  subst e
  cases x with
  | false => exact (vb H0 G2 H2 σ env (at0.up x2)).weak (bk_W S) x2.dom
  | true => exact (va H0 G2 H2 σ env (at0.up x2)).weak (bk_W S) x2.dom
theorem ce_and {a b : Expr} {rest : List Expr} {f g : EF} {pos : Pos} (ha : CE S k E cc sc a f) (hb : CE S k E cc sc (.BoolOp .And (b :: rest) pos) g) : CE S k E cc sc (.BoolOp .And (a :: b :: rest) pos) (eAn f g) := by
  obtain ⟨ta, pa, va⟩ := ha
  obtain ⟨tb, pb, vb⟩ := hb
  refine ⟨tAndV ta tb, fun X c => pe_and (pa X c) (pb X c), fun H0 G H σ env at0 => ?_⟩
  refine EvG.bind (tq := ta σ H) (k := fun x H1 Q => ∃ c, x = .bl c ∧ if c = true then tb σ H1 Q else Q (.bl false) H1) (va H0 G H σ env at0) fun x l G2 H2 _ x2 r2 => ⟨G2, x2, ?_⟩
  cases e : boolL l with
  | stuck => exact EvG.stk
  | ex c => exact absurd e boolL_ex
  | ok z =>
    have ez := boolL_ok r2 e
    subst ez
    cases z with
    | false => exact okB_now (E := E) x2.gh fun Q q => ⟨false, rfl, q⟩
    | true => exact ((vb H0 G2 H2 σ env (at0.up x2)).weak (bk_W S) x2.dom).imp fun Q q => ⟨true, rfl, q⟩
theorem ce_or {a b : Expr} {rest : List Expr} {f g : EF} {pos : Pos} (ha : CE S k E cc sc a f) (hb : CE S k E cc sc (.BoolOp .Or (b :: rest) pos) g) : CE S k E cc sc (.BoolOp .Or (a :: b :: rest) pos) (eOr f g) := by
  obtain ⟨ta, pa, va⟩ := ha
  obtain ⟨tb, pb, vb⟩ := hb
  refine ⟨tOrV ta tb, fun X c => pe_or (pa X c) (pb X c), fun H0 G H σ env at0 => ?_⟩
  refine EvG.bind (tq := ta σ H) (k := fun x H1 Q => ∃ c, x = .bl c ∧ if c = true then Q (.bl true) H1 else tb σ H1 Q) (va H0 G H σ env at0) fun x l G2 H2 _ x2 r2 => ⟨G2, x2, ?_⟩
  cases e : boolL l with
  | stuck => exact EvG.stk
  | ex c => exact absurd e boolL_ex
  | ok z =>
    have ez := boolL_ok r2 e
    subst ez
    cases z with
    | true => exact okB_now (E := E) x2.gh fun Q q => ⟨true, rfl, q⟩
    | false => exact ((vb H0 G2 H2 σ env (at0.up x2)).weak (bk_W S) x2.dom).imp fun Q q => ⟨false, rfl, q⟩
theorem ce_one {op : BoolOp} {a : Expr} {f : EF} {pos : Pos} (ha : CE S k E cc sc a f) : CE S k E cc sc (.BoolOp op [a] pos) f := by
  obtain ⟨t, p, v⟩ := ha
  exact ⟨t, fun X c => pe_one (p X c), v⟩
theorem ce_not {a : Expr} {f : EF} {pos : Pos} (ha : CE S k E cc sc a f) : CE S k E cc sc (.UnaryOp .Not a pos) (eNt f) := by
  obtain ⟨t, p, v⟩ := ha
  refine ⟨tNotV t, fun X c => pe_not (p X c), fun H0 G H σ env at0 => ?_⟩
  refine EvG.bind (tq := t σ H) (k := fun x H1 (Q : VK) => ∃ c, x = V.bl c ∧ Q (V.bl (!c)) H1) (v H0 G H σ env at0) fun x l G2 H2 _ x2 r2 => ⟨G2, x2, ?_⟩
  cases e : boolL l with
  | stuck => exact EvG.stk
  | ex c => exact absurd e boolL_ex
  | ok z =>
    have ez := boolL_ok r2 e
    subst ez
    exact okB_now (E := E) x2.gh fun Q q => ⟨z, rfl, q⟩
end
/-! ### targets -/
def gNm (i : Nat) : GF := fun x env => .ok (env.set i (.d x))
def gAll : List GF → List D → List L → M (List L)
  | [], [], env => .ok env
  | g :: gs, x :: xs, env => (g x env).bind fun env => gAll gs xs env
  | _, _, _ => .stuck
def gTp (gs : List GF) : GF := fun x env => match x with
  | .tuple xs => gAll gs xs env
  | _ => .stuck
theorem wipe_idem (σ : L2.St) : ∀ vs : List Nat, wipe (wipe σ vs) vs = wipe σ vs := fun vs => by
  have key : ∀ (τ : L2.St) (ws : List Nat), (∀ i ∈ ws, i < τ.length → τ[i]? = some none) → wipe τ ws = τ := fun τ ws => by
    induction ws with
    | nil => intro _; rfl
    | cons v ws ih =>
      intro h
      show (wipe τ ws).set v none = τ
      rw [ih fun i hi => h i (by simp [hi])]
      by_cases hv : v < τ.length
      · have e := h v (by simp) hv
        obtain ⟨_, e2⟩ := List.getElem?_eq_some_iff.mp e
        rw [← e2]
        exact List.set_getElem_self hv
      · exact List.set_eq_of_length_le (by omega)
  refine key _ _ fun i hi hl => ?_
  have : ∀ ws : List Nat, i ∈ ws → i < σ.length → (wipe σ ws)[i]? = some none := fun ws => by
    induction ws with
    | nil => intro h; cases h
    | cons v ws ih =>
      intro h hl
      show ((wipe σ ws).set v none)[i]? = some none
      by_cases hv : v = i
      · subst hv
        rw [List.getElem?_set_self (by rw [wipe_length]; exact hl)]
      · rw [List.getElem?_set_ne hv]
        rcases List.mem_cons.mp h with z | z
        · exact absurd z.symm hv
        · exact ih z hl
  exact this vs hi (by rw [wipe_length] at hl; exact hl)
theorem wipe_set {σ : L2.St} {i : Nat} {v : Option V} : ∀ {vs : List Nat}, i ∈ vs → wipe (σ.set i v) vs = wipe σ vs
  | w :: vs, h => by
    show (wipe (σ.set i v) vs).set w none = (wipe σ vs).set w none
    by_cases hi : i ∈ vs
    · rw [wipe_set hi]
    · have e : w = i := by
        rcases List.mem_cons.mp h with z | z
        · exact z.symm
        · exact absurd z hi
      subst e
      have key : ∀ ws : List Nat, w ∉ ws → wipe (σ.set w v) ws = (wipe σ ws).set w v := fun ws => by
        induction ws with
        | nil => intro _; rfl
        | cons u ws ih =>
          intro hn
          rw [List.mem_cons, not_or] at hn
          show (wipe (σ.set w v) ws).set u none = ((wipe σ ws).set u none).set w v
          rw [ih hn.2, List.set_comm _ _ hn.1]
      rw [key vs hi, List.set_set]
section
variable (S : Sys) (k : Nat) (E : XK) (cc : CC) (sc : SC)
def GOk (gt : TG) (sl : List Nat) (g : GF) : Prop := ∀ H0 G H σ env v x env', At S H0 G H σ env → DR S.K G v x → g x env = .ok env' →
  ∀ Q : L2.St → Hp → Prop, (∀ σ', EnvR S H0 G H σ' env' → (∀ vs, (∀ i ∈ sl, i ∈ vs) → wipe σ' vs = wipe σ vs) → Q σ' H) → gt v σ H Q
def CG (tg : Expr) (sl : List Nat) (g : GF) : Prop := ∃ gt : TG, (∀ X, CtxOk S k E cc sc X → PG X tg gt) ∧ GOk S gt sl g
def CGs (tgs : List Expr) (sl : List Nat) (gs : List GF) : Prop := ∃ gt : TGs, (∀ X, CtxOk S k E cc sc X → PGs X tgs gt) ∧ tgs.all notStar = true ∧ tgs.length = gs.length ∧ ∀ H0 G H σ env vs xs env', At S H0 G H σ env → DRs S.K G vs xs → gAll gs xs env = .ok env' →
  ∀ Q : L2.St → Hp → Prop, (∀ σ', EnvR S H0 G H σ' env' → (∀ vs, (∀ i ∈ sl, i ∈ vs) → wipe σ' vs = wipe σ vs) → Q σ' H) → gt vs σ H Q
end
def locB (sc : SC) (x : Str) : Bool := decide (sc.sc.names.lookup x = some .local) || (decide (sc.sc.names.lookup x = some .cell) && sc.fn x)
section
variable {S : Sys} {k : Nat} {E : XK} {cc : CC} {sc : SC}
theorem locB_ok {x : Str} (h : locB sc x = true) : Loc sc.sc x ∧ (sc.fn x = true ∨ sc.sc.names.lookup x = some .local) := by
  unfold locB at h
  rw [Bool.or_eq_true, Bool.and_eq_true] at h
  rcases h with h | ⟨h1, h2⟩
  · exact ⟨.inl (of_decide_eq_true h), .inr (of_decide_eq_true h)⟩
  · exact ⟨.inr (of_decide_eq_true h1), .inl h2⟩
theorem cg_name {x : Str} {i : Nat} {pos : Pos} (hi : cc.N[i]? = some x) (hl : locB sc x = true) : CG S k E cc sc (.Name x pos) [i] (gNm i) := by
  obtain ⟨h1, h2⟩ := locB_ok hl
  refine ⟨gName i, fun X c => pg_name (by rw [c.N]; exact c.nd) (by rw [c.N]; exact hi) (by rw [c.scp]; exact h1) (by rw [c.fn, c.scp]; exact h2), fun H0 G H σ env v x env' at0 r e Q q => ?_⟩
  cases e
  exact q _ (at0.env.setD i r) fun vs h => wipe_set (h i (by simp))
theorem cgs_nil : CGs S k E cc sc [] [] [] := ⟨gNil, fun X c => pgs_nil, rfl, rfl, fun H0 G H σ env vs xs env' at0 r e Q q => by
  cases r with
  | nil =>
    cases e
    exact ⟨rfl, q _ at0.env fun _ _ => rfl⟩
  | cons _ _ => cases e⟩
theorem assign_cons {e : Expr} {es : List Expr} {env : Env} (h : notStar e = true) : assignEach (e :: es) env = (false, assign e env) :: assignEach es env := by
  cases e <;> first | rfl | cases h
theorem cgs_cons {t : Expr} {ts : List Expr} {sl sl' : List Nat} {g : GF} {gs : List GF} (hs : notStar t = true) (h : CG S k E cc sc t sl g) (hr : CGs S k E cc sc ts sl' gs) : CGs S k E cc sc (t :: ts) (sl ++ sl') (g :: gs) := by
  obtain ⟨gt, p, v⟩ := h
  obtain ⟨ut, q, ns, nl, w⟩ := hr
  refine ⟨gCons gt ut, fun X c => pgs_cons (p X c) (q X c) (by rw [assign_cons hs]; rfl), by rw [List.all_cons, hs, ns]; rfl, by simp [nl], fun H0 G H σ env vs xs env' at0 r e Q hq => ?_⟩
  cases r with
  | nil => cases e
  | cons a r =>
    rename_i x vs x2 xs
    have e' : (g x2 env).bind (fun env => gAll gs xs env) = .ok env' := e
    cases e1 : g x2 env with
    | stuck => rw [e1] at e'; cases e'
    | ex c => rw [e1] at e'; cases e'
    | ok env1 =>
      rw [e1] at e'
      refine ⟨_, _, rfl, v H0 G H σ env _ _ env1 at0 a e1 _ fun σ1 r1 w1 => ?_⟩
      refine w H0 G H σ1 env1 _ _ env' ⟨at0.sb, at0.tb, r1⟩ r e' _ fun σ2 r2 w2 => hq σ2 r2 fun vs hv => ?_
      rw [w2 vs fun i hi => hv i (by simp [hi]), w1 vs fun i hi => hv i (by simp [hi])]
theorem assign_len {env : Env} : ∀ {es : List Expr}, es.all notStar = true → (assignEach es env).length = es.length ∧ (assignEach es env).findIdx? (·.1) = none
  | [], _ => ⟨rfl, rfl⟩
  | e :: es, h => by
    rw [List.all_cons, Bool.and_eq_true] at h
    obtain ⟨h1, h2⟩ := assign_len (env := env) h.2
    rw [assign_cons h.1]
    exact ⟨by simp [h1], by rw [List.findIdx?_cons]; simp [h2]⟩
theorem cg_tup {ts : List Expr} {sl : List Nat} {gs : List GF} {n : Nat} {pos : Pos} (h : CGs S k E cc sc ts sl gs) : CG S k E cc sc (.Tuple ts n pos) sl (gTp gs) := by
  obtain ⟨gt, p, ns, nl, w⟩ := h
  refine ⟨gTup S.K ts.length gt, fun X c => by rw [← c.K]; exact pg_tup c.calm (p X c) (assign_len ns).1 (assign_len ns).2, fun H0 G H σ env v x env' at0 r e Q q => ?_⟩
  cases x <;> first | (cases e; done) | skip
  rename_i xs
  obtain ⟨a, vs, rfl, h1, r1⟩ := DR.toTup r
  have e' : gAll gs xs env = .ok env' := e
  refine ⟨a, vs, rfl, at0.sb.xt.sqT h1, ?_, w H0 G H σ env vs xs env' at0 r1 e' Q q⟩
  have key : ∀ (gs : List GF) (xs : List D) (env env' : List L), gAll gs xs env = .ok env' → xs.length = gs.length := fun gs => by
    induction gs with
    | nil =>
      intro xs env env' h
      cases xs with
      | nil => rfl
      | cons _ _ => cases h
    | cons g gs ih =>
      intro xs env env' h
      cases xs with
      | nil => cases h
      | cons x xs =>
        have h' : (g x env).bind (fun env => gAll gs xs env) = .ok env' := h
        cases e1 : g x env with
        | stuck => rw [e1] at h'; cases h'
        | ex c => rw [e1] at h'; cases h'
        | ok env1 =>
          rw [e1] at h'
          simp [ih xs env1 env' h']
  rw [r1.length, key gs xs env env' e', nl]
end
end PD
/-! what is walked; comprehensions -/
namespace PD
open PySem PySem.Spec PyProof.Rows L2
/-- J walks over xs, from G2 H2 on -/
def RIt (S : Sys) : Hp → Hp → Hp → It → List D → Prop := fun _ G2 H2 J xs => ∃ (Gd : Hp → Prop) (Y : Nat → Hp → V → Hp → Prop), Walk J xs.length Gd Y ∧ (∀ H', Xt G2 H' → Gd H') ∧
  ∀ (i : Nat) (x : D) (G3 H3 : Hp) (v : V) (H4 : Hp), xs[i]? = some x → Xt G2 G3 → Sb G3 H3 → Y i H3 v H4 → ∃ G4, Gr S G3 H3 G4 H4 ∧ DR S.K G4 v x
abbrev EvI (S : Sys) (E : XK) (wi : TI) (σ : L2.St) (G H : Hp) (r : M (List D)) : Prop := EvG S E (RIt S) (wi σ H) G H r
def CI (S : Sys) (k : Nat) (E : XK) (cc : CC) (sc : SC) (tg iter : Expr) (f : IF) : Prop := ∃ wi : TI, (∀ X, CtxOk S k E cc sc X → PI X tg iter wi) ∧ ∀ H0 G H σ env, At S H0 G H σ env → EvI S E wi σ G H (f env)
def itL : L → M (List D)
  | .d (.list xs) => .ok xs
  | .d (.tuple xs) => .ok xs
  | _ => .stuck
def iEx (f : EF) : IF := fun env => (f env).bind fun l => (fzL l).bind itL
def rngD (lo : Int) (n : Nat) : List D := (List.range n).map fun i => .int (lo + (i : Nat))
def b62 (i : Int) : Bool := decide (-(2 ^ 62) ≤ i) && decide (i < 2 ^ 62)
def int1 (f : Int → M (List D)) : L → M (List D)
  | .d (.int j) => f j
  | _ => .stuck
def iR1 (f : EF) : IF := fun env => (f env).bind (int1 fun j => if b62 j = true then .ok (rngD 0 j.toNat) else .stuck)
def iR2 (f g : EF) : IF := fun env => (f env).bind fun a => (g env).bind fun b => int1 (fun i => int1 (fun j => if b62 i = true ∧ b62 j = true then .ok (rngD i (j - i).toNat) else .stuck) b) a
def iR3 (f g : EF) : IF := fun env => (f env).bind fun a => (g env).bind fun b => int1 (fun i => int1 (fun j => if b62 i = true ∧ b62 j = true then .ok ((List.range (i - j).toNat).map fun k => .int (i - (k : Nat))) else .stuck) b) a
def enumD : Nat → List D → List D
  | _, [] => []
  | n, x :: xs => .tuple [.int (n : Nat), x] :: enumD (n + 1) xs
def iEn (f : EF) : IF := fun env => (f env).bind fun l => (fzL l).bind fun l => (itL l).bind fun xs => .ok (enumD 0 xs)
def zipD : List D → List D → List D
  | x :: xs, y :: ys => .tuple [x, y] :: zipD xs ys
  | _, _ => []
def zipL : L → L → M (List D)
  | .d (.list xs), .d (.list ys) => .ok (zipD xs ys)
  | .d (.tuple xs), .d (.tuple ys) => .ok (zipD xs ys)
  | .d (.list xs), .d (.tuple ys) => .ok (zipD xs ys)
  | _, _ => .stuck
def iZp (f g : EF) : IF := fun env => (f env).bind fun a => (fzL a).bind fun a => (g env).bind fun b => (fzL b).bind fun b => zipL a b
section
variable {S : Sys} {k : Nat} {E : XK} {cc : CC} {sc : SC}
theorem fzL_ex {l : L} {c : Str} : fzL l ≠ .ex c := fun z => by
  unfold fzL at z
  cases l <;> cases z
theorem itL_ex {l : L} {c : Str} : itL l ≠ .ex c := fun z => by
  unfold itL at z
  split at z <;> cases z
/-- frozen, then used -/
theorem ev_fz {te : TE} {σ : L2.St} {G H : Hp} {r : M L} {γ δ : Type} {R' : Hp → Hp → Hp → γ → δ → Prop} {kk : V → Hp → (γ → Hp → Prop) → Prop} {g : L → M δ} (h : EvW S E te σ G H r)
    (hk : ∀ x d G2 H2, Gr S G H G2 H2 → DR S.K G2 x d → EvG S E (fun _ => R' H) (kk x H2) G2 H2 (g (.d d))) : EvG S E R' (fun Q => te σ H fun x H2 => kk x H2 Q) G H (r.bind fun l => (fzL l).bind g) := by
  refine EvG.bind (tq := te σ H) (k := kk) h fun x l G2 H2 _ x2 r2 => ?_
  unfold fzL
  cases e1 : l.fz with
  | stuck => exact ⟨G2, x2, EvG.stk⟩
  | ex c =>
    exact absurd e1 fun z => by cases l <;> cases z
  | ok d =>
    obtain ⟨G3, x3, r3⟩ := r2.fz x2 e1
    exact ⟨G3, x3, hk x d G3 H2 x3 r3⟩
theorem rit_list {H G2 H2 : Hp} {a : Addr} {vs : List V} {xs : List D} (h1 : G2 a = some (.lst vs)) (r1 : DRs S.K G2 vs xs) : RIt S H G2 H2 (Itl S.K a) xs := by
  refine ⟨fun H' => SqL S.K H' a vs, YAt vs, ?_, fun H' x => SqL.of (x.lst h1), fun i x G3 H3 v H4 ei x3 sb y => ?_⟩
  · rw [← r1.length]
    exact walk_list
  · obtain ⟨rfl, hy⟩ := y
    obtain ⟨v', hv, rv⟩ := r1.get ei
    rw [hv] at hy
    cases hy
    exact ⟨G3, Gr.refl sb, rv.up x3⟩
theorem rit_tup {H G2 H2 : Hp} {a : Addr} {vs : List V} {xs : List D} (h1 : SqT S.K G2 a vs) (r1 : DRs S.K G2 vs xs) : RIt S H G2 H2 (Itt S.K a) xs := by
  refine ⟨fun H' => SqT S.K H' a vs, YAt vs, ?_, fun H' x => x.sqT h1, fun i x G3 H3 v H4 ei x3 sb y => ?_⟩
  · rw [← r1.length]
    exact walk_tup
  · obtain ⟨rfl, hy⟩ := y
    obtain ⟨v', hv, rv⟩ := r1.get ei
    rw [hv] at hy
    cases hy
    exact ⟨G3, Gr.refl sb, rv.up x3⟩
/-- a new pair each turn -/
theorem rit_pair {H G2 H2 : Hp} {J : It} {Gd : Hp → Prop} {f g : Nat → Option V} {n : Nat} {xs : List D} (w : Walk J n Gd (YPair f g)) (hn : n = xs.length) (hG : ∀ H', Xt G2 H' → Gd H')
    (hx : ∀ (i : Nat) (x : D) (u v : V), xs[i]? = some x → f i = some u → g i = some v → ∃ d e, x = .tuple [d, e] ∧ DR S.K G2 u d ∧ DR S.K G2 v e) : RIt S H G2 H2 J xs := by
  subst hn
  refine ⟨Gd, _, w, hG, fun i x G3 H3 v H4 ei x3 sb y => ?_⟩
  obtain ⟨T, u1, u2, rfl, hT, rfl, e1, e2⟩ := y
  obtain ⟨d, e, rfl, r1, r2⟩ := hx i x u1 u2 ei e1 e2
  exact ⟨_, Gr.newF sb hT (fun ps z => by cases z), .tup (SqT.of upd_same) (.cons ((r1.up x3).up (Xt.upd (sb.none hT))) (.cons ((r2.up x3).up (Xt.upd (sb.none hT))) .nil))⟩
/-- ints, told by the turn -/
theorem rit_ints {H G2 H2 : Hp} {J : It} {n : Nat} {f : Nat → Int} (w : Walk J n (fun _ => True) (YFn fun i => .int (f i))) : RIt S H G2 H2 J ((List.range n).map fun i => .int (f i)) := by
  refine ⟨fun _ => True, YFn fun i => .int (f i), by rw [List.length_map, List.length_range]; exact w, fun _ _ => True.intro, fun i x G3 H3 v H4 ei x3 sb y => ?_⟩
  obtain ⟨rfl, rfl⟩ := y
  have hi : i < n := by
    have h := (List.getElem?_eq_some_iff.mp ei).1
    rwa [List.length_map, List.length_range] at h
  rw [List.getElem?_map, List.getElem?_range hi] at ei
  cases ei
  exact ⟨G3, Gr.refl sb, .int _⟩
/-! what is walked: a list or a tuple -/
def iSeq (K : Frg) (tl : TE) : TI := fun σ H R => tl σ H fun x H1 => ∃ a, x = .ref a ∧ (((∃ xs, SqL K H1 a xs) ∧ R (Itl K a) H1) ∨ ((∃ xs, SqT K H1 a xs) ∧ R (Itt K a) H1))
theorem pi_seq {X : Cx} {tg l : Expr} {tl : TE} (hl : PE X l tl) : PI X tg l (iSeq X.K tl) := by
  refine ⟨fun pins s σ H R I h => ?_⟩
  refine thn (hl.run pins s σ H _ I h) fun v s1 ⟨x, H1, I1, r1, q1⟩ => ?_
  obtain ⟨a, e, q1⟩ := q1
  subst e
  cases r1
  rcases q1 with ⟨⟨xs, hq⟩, q⟩ | ⟨⟨xs, hq⟩, q⟩
  · obtain ⟨its, rv, p, hz⟩ := I1.list hq
    refine wpAny_pyIter_list p.isList ?_
    refine ⟨s1.heap.objs.size, [s1.heap.objs.size], _, _, H1, rfl, I1.kept (t' := s1.toks) fun b o e => Heap.get?_push_of_some _ e, turn_list a _, ⟨_, Heap.get?_push_size _ rfl, rfl, rfl⟩, fun b hb => ?_, q⟩
    have e : b = s1.heap.objs.size := by simpa using hb
    subst e
    exact I1.fpOk (Nat.le_refl _) (I1.hok.fresh (Nat.le_refl _))
  · obtain ⟨its, rv, p, hz⟩ := I1.tuple hq
    refine wpAny_pyIter_tuple (show s1.heap.IsTuple a its.toArray from p) ?_
    refine ⟨s1.heap.objs.size, [s1.heap.objs.size], _, _, H1, rfl, I1.kept (t' := s1.toks) fun b o e => Heap.get?_push_of_some _ e, turn_tuple a _, ⟨_, Heap.get?_push_size _ rfl, rfl, rfl⟩, fun b hb => ?_, q⟩
    have e : b = s1.heap.objs.size := by simpa using hb
    subst e
    exact I1.fpOk (Nat.le_refl _) (I1.hok.fresh (Nat.le_refl _))
def iEnumA (K : Frg) (ta : TA) : TI := fun σ H R => ta σ H fun vs H1 => ∃ a xs, vs = [.ref a] ∧ ((SqL K H1 a xs ∧ R (Ite K a) H1) ∨ (SqT K H1 a xs ∧ R (IteT K a) H1))
theorem pi_enumA {X : Cx} {e : Expr} {ta : TA} {p pos tpos : Pos} {elts : List Expr} {kk : Nat} (hg : Gl X "enumerate") (hm : X.mg "enumerate" = none) (ha : PA X [e] ta) (hs : starEach [e] X.env = [(false, eval e X.env)]) :
    PI X (.Tuple elts kk tpos) (.Call (.Name "enumerate" p) [e] [] pos) (iEnumA X.K ta) := by
  refine ⟨fun pins s σ H R I h => ?_⟩
  refine Call_ (ld_blt I hg hm boot_enumerate (PyProof.Rows.callWith_type1 (thn (ha.run pos pins s σ H _ I h) fun us s1 ⟨vs, H1, I1, r1, q1⟩ => ?_) hs rfl))
  obtain ⟨a, xs, ex, hq⟩ := q1
  subst ex
  cases r1 with
  | cons r rr =>
    cases rr
    cases r
    have fresh2 : ∀ b ∈ [s1.heap.objs.size + 1, s1.heap.objs.size], FpOk X pins H1 b := fun b hb => by
      have e' : b = s1.heap.objs.size + 1 ∨ b = s1.heap.objs.size := by simpa using hb
      have hle : s1.heap.objs.size ≤ b := by
        rcases e' with z | z
        · rw [z]; exact Nat.le_add_right _ _
        · rw [z]; exact Nat.le_refl _
      exact I1.fpOk hle (I1.hok.fresh hle)
    rcases hq with ⟨hq, q⟩ | ⟨hq, q⟩
    · obtain ⟨its, rv, p', hz⟩ := I1.list hq
      refine call_enumerate_list p'.isList fun h' he hit hsz hk => wpAny_pyIter_enum he ?_
      have I2 : Inv X pins σ H1 { s1 with heap := h' } := I1.kept (t' := s1.toks) hk
      exact ⟨s1.heap.objs.size + 1, [s1.heap.objs.size + 1, s1.heap.objs.size], _, _, H1, rfl, I2, turn_enum a (s1.heap.objs.size + 1) s1.heap.objs.size, ⟨⟨.none, he⟩, hit, Nat.succ_ne_self _⟩, fresh2, q⟩
    · obtain ⟨its, rv, p', hz⟩ := I1.tuple hq
      refine pd_enum_begins (isTup_isTuple p') fun h' he hit hsz hk => wpAny_pyIter_enum he ?_
      have I2 : Inv X pins σ H1 { s1 with heap := h' } := I1.kept (t' := s1.toks) hk
      exact ⟨s1.heap.objs.size + 1, [s1.heap.objs.size + 1, s1.heap.objs.size], _, _, H1, rfl, I2, turn_enumT a (s1.heap.objs.size + 1) s1.heap.objs.size, ⟨⟨.none, he⟩, ⟨_, hit, rfl, rfl⟩, Nat.succ_ne_self _, Nat.ne_of_lt p'.lt⟩, fresh2, q⟩
theorem ci_ex {tg e : Expr} {f : EF} (h : CE S k E cc sc e f) : CI S k E cc sc tg e (iEx f) := by
  obtain ⟨t, p, v⟩ := h
  refine ⟨iSeq S.K t, fun X c => by rw [← c.K]; exact pi_seq (p X c), fun H0 G H σ env at0 => ?_⟩
  refine ev_fz (te := t) (kk := fun x H1 (R : It → Hp → Prop) => ∃ a, x = .ref a ∧ (((∃ xs, SqL S.K H1 a xs) ∧ R (Itl S.K a) H1) ∨ ((∃ xs, SqT S.K H1 a xs) ∧ R (Itt S.K a) H1))) (v H0 G H σ env at0) fun x d G2 H2 x2 r2 => ?_
  unfold itL
  split
  · rename_i xs e
    cases e
    obtain ⟨a, vs, rfl, h1, r1⟩ := DR.toLst r2
    exact EvG.now x2.gh fun Q q => ⟨a, rfl, .inl ⟨⟨vs, SqL.of (x2.gh.xt.lst h1)⟩, q _ (rit_list h1 r1)⟩⟩
  · rename_i xs e
    cases e
    obtain ⟨a, vs, rfl, h1, r1⟩ := DR.toTup r2
    exact EvG.now x2.gh fun Q q => ⟨a, rfl, .inr ⟨⟨vs, x2.gh.xt.sqT h1⟩, q _ (rit_tup h1 r1)⟩⟩
  · exact EvG.stk
theorem b62_ok {i : Int} (h : b62 i = true) : -(2 ^ 62) ≤ i ∧ i < 2 ^ 62 := by
  unfold b62 at h
  rw [Bool.and_eq_true] at h
  exact ⟨of_decide_eq_true h.1, of_decide_eq_true h.2⟩
theorem blt_none {x : Str} (C : CcOk S k cc) (hb : cc.fns.all (fun e => !(e.x == x)) = true) (hx : x ∈ bltNames) : S.mg x = none := by
  rcases C.blt x hx with ⟨e, he, ex⟩ | z
  · have h1 := List.all_eq_true.mp hb e he
    rw [ex, beq_self_eq_true] at h1
    exact absurd h1 (by decide)
  · exact z
theorem int1_ok {HA G H : Hp} {α : Type} {R : Hp → Hp → Hp → α → List D → Prop} {tq : (α → Hp → Prop) → Prop} {v : V} {l : L} {f : Int → M (List D)} (r : WR S HA G H v l) (h : ∀ i, v = .int i → EvG S E R tq G H (f i)) : EvG S E R tq G H (int1 f l) := by
  unfold int1
  split
  · rename_i j
    exact h j (DR.toInt r)
  · exact EvG.stk
theorem ci_range1 {tg a : Expr} {f : EF} {p pos : Pos} (C : CcOk S k cc) (hb : cc.fns.all (fun e => !(e.x == ("range" : Str))) = true) (hg : glB sc "range" = true) (hs : notStar a = true) (h : CE S k E cc sc a f) :
    CI S k E cc sc tg (.Call (.Name "range" p) [a] [] pos) (iR1 f) := by
  obtain ⟨t, pa, v⟩ := h
  have hm : S.mg "range" = none := blt_none C hb (by decide)
  refine ⟨iRng1 (tCons t tNil), fun X c => ?_, fun H0 G H σ env at0 => ?_⟩
  · obtain ⟨g1, g2, _⟩ := glB_ok c hg
    exact pi_range1 g1 (by rw [c.mg]; exact hm) (pa_cons (pa X c) pa_nil (star_cons hs)) (star_cons hs)
  · refine EvG.bind (tq := t σ H) (k := fun x H1 (R : It → Hp → Prop) => ∃ j : Int, [x] = [.int j] ∧ -(2 ^ 62) ≤ j ∧ j < 2 ^ 62 ∧ R (Itr 0 j.toNat) H1) (v H0 G H σ env at0) fun x l G2 H2 el x2 r2 => ⟨G2, x2, int1_ok r2 fun j ej => ?_⟩
    subst ej
    split
    · rename_i hb
      exact EvG.now x2.gh fun Q q => ⟨j, rfl, (b62_ok hb).1, (b62_ok hb).2, q _ (rit_ints walk_range)⟩
    · exact EvG.stk
theorem ci_range2 {tg a b : Expr} {f g : EF} {p pos : Pos} (C : CcOk S k cc) (hb : cc.fns.all (fun e => !(e.x == ("range" : Str))) = true) (hg : glB sc "range" = true) (hs : notStar a = true) (hs2 : notStar b = true) (h : CE S k E cc sc a f) (h2 : CE S k E cc sc b g) :
    CI S k E cc sc tg (.Call (.Name "range" p) [a, b] [] pos) (iR2 f g) := by
  obtain ⟨t, pa, v⟩ := h
  obtain ⟨u, pu, w⟩ := h2
  have hm : S.mg "range" = none := blt_none C hb (by decide)
  refine ⟨iRng2 (tCons t (tCons u tNil)), fun X c => ?_, fun H0 G H σ env at0 => ?_⟩
  · obtain ⟨g1, g2, _⟩ := glB_ok c hg
    exact pi_range2 g1 (by rw [c.mg]; exact hm) (pa_cons (pa X c) (pa_cons (pu X c) pa_nil (star_cons hs2)) (star_cons hs)) (by rw [star_cons hs, star_cons hs2]; rfl) (star_cons hs2)
  · refine EvG.bind (tq := t σ H) (k := fun x H1 (R : It → Hp → Prop) => u σ H1 fun y H2 => ∃ i j : Int, [x, y] = [.int i, .int j] ∧ (-(2 ^ 62) ≤ i ∧ i < 2 ^ 62 ∧ -(2 ^ 62) ≤ j ∧ j < 2 ^ 62) ∧ R (Itr i (j - i).toNat) H2) (v H0 G H σ env at0) fun x l G2 H2 el x2 r2 => ⟨G2, x2, ?_⟩
    refine EvG.bind (tq := u σ H2) (k := fun y H2 (R : It → Hp → Prop) => ∃ i j : Int, [x, y] = [.int i, .int j] ∧ (-(2 ^ 62) ≤ i ∧ i < 2 ^ 62 ∧ -(2 ^ 62) ≤ j ∧ j < 2 ^ 62) ∧ R (Itr i (j - i).toNat) H2) (w H0 G2 H2 σ env (at0.up x2)) fun y l2 G3 H3 el2 x3 r3 => ⟨G3, x3, int1_ok (r2.up x3) fun i ei => int1_ok r3 fun j ej => ?_⟩
    subst ei ej
    split
    · rename_i hb
      exact EvG.now x3.gh fun Q q => ⟨i, j, rfl, ⟨(b62_ok hb.1).1, (b62_ok hb.1).2, (b62_ok hb.2).1, (b62_ok hb.2).2⟩, q _ (rit_ints walk_range)⟩
    · exact EvG.stk
theorem ce_m1 {n : Nat} {p1 p2 : Pos} : CE S k E cc sc (.UnaryOp .USub (.Constant (.int 1) n p1) p2) (eC (.int (-1))) :=
  ⟨tUn (rU fun i => .int (-i)) (tC (.int 1)), fun X c => pe_un un_neg pe_int, fun H0 G H σ env a => EvG.now a.sb fun Q q => ⟨1, rfl, q (.int (-1)) (.int _)⟩⟩
theorem ci_range3 {tg a b : Expr} {f g : EF} {p pos p1 p2 : Pos} {n : Nat} (C : CcOk S k cc) (hb : cc.fns.all (fun e => !(e.x == ("range" : Str))) = true) (hg : glB sc "range" = true) (hs : notStar a = true) (hs2 : notStar b = true) (h : CE S k E cc sc a f) (h2 : CE S k E cc sc b g) :
    CI S k E cc sc tg (.Call (.Name "range" p) [a, b, .UnaryOp .USub (.Constant (.int 1) n p1) p2] [] pos) (iR3 f g) := by
  obtain ⟨t, pa, v⟩ := h
  obtain ⟨u, pu, w⟩ := h2
  have hm : S.mg "range" = none := blt_none C hb (by decide)
  refine ⟨iRng3 (tCons t (tCons u (tCons (tUn (rU fun i => .int (-i)) (tC (.int 1))) tNil))), fun X c => ?_, fun H0 G H σ env at0 => ?_⟩
  · obtain ⟨g1, g2, _⟩ := glB_ok c hg
    exact pi_range3 g1 (by rw [c.mg]; exact hm) (pa_cons (pa X c) (pa_cons (pu X c) (pa_cons (pe_un un_neg pe_int) pa_nil) (star_cons hs2)) (star_cons hs)) (star_cons hs) (by rw [back_any]; exact star_any (by rw [List.all_cons, hs2]; rfl))
  · refine EvG.bind (tq := t σ H) (k := fun x H1 (R : It → Hp → Prop) => u σ H1 fun y H2 => ∃ i1, V.int 1 = .int i1 ∧ ∃ (i j c : Int) (n : Nat), [x, y, V.int (-i1)] = [.int i, .int j, .int c] ∧ RgC i j c n ∧ R (Itc i c n) H2) (v H0 G H σ env at0) fun x l G2 H2 el x2 r2 => ⟨G2, x2, ?_⟩
    refine EvG.bind (tq := u σ H2) (k := fun y H2 (R : It → Hp → Prop) => ∃ i1, V.int 1 = .int i1 ∧ ∃ (i j c : Int) (n : Nat), [x, y, V.int (-i1)] = [.int i, .int j, .int c] ∧ RgC i j c n ∧ R (Itc i c n) H2) (w H0 G2 H2 σ env (at0.up x2)) fun y l2 G3 H3 el2 x3 r3 => ⟨G3, x3, int1_ok (r2.up x3) fun i ei => int1_ok r3 fun j ej => ?_⟩
    subst ei ej
    split
    · rename_i hb
      refine EvG.now x3.gh fun Q q => ⟨1, rfl, i, j, -1, (i - j).toNat, rfl, RgC.neg (b62_ok hb.1).1 (b62_ok hb.1).2 (b62_ok hb.2).1 (b62_ok hb.2).2, q _ ?_⟩
      have w1 := rit_ints (S := S) (H := H) (G2 := G3) (H2 := H3) (walk_rangeC (lo := i) (c := -1) (n := (i - j).toNat))
      have e : (fun k : Nat => PyData.int (i + (k : Nat) * (-1 : Int))) = fun k : Nat => PyData.int (i - (k : Nat)) := by
        funext k
        rw [show i + (k : Int) * (-1) = i - (k : Int) by omega]
      rw [e] at w1
      exact w1
    · exact EvG.stk
theorem enum_get : ∀ (xs : List D) (n i : Nat) (x : D), (enumD n xs)[i]? = some x → ∃ d, xs[i]? = some d ∧ x = .tuple [.int ((n + i : Nat) : Int), d]
  | [], _, _, _, h => by simp [enumD] at h
  | d :: xs, n, 0, x, h => by
    simp [enumD] at h
    exact ⟨d, rfl, h.symm⟩
  | d :: xs, n, i + 1, x, h => by
    have h' : (enumD (n + 1) xs)[i]? = some x := by simpa [enumD] using h
    obtain ⟨e, h1, h2⟩ := enum_get xs (n + 1) i x h'
    exact ⟨e, by simpa using h1, by rw [h2]; congr 3; omega⟩
theorem enum_len : ∀ (xs : List D) (n : Nat), (enumD n xs).length = xs.length
  | [], _ => rfl
  | _ :: xs, n => by simp [enumD, enum_len xs (n + 1)]
theorem ci_enum {ts : List Expr} {n : Nat} {tpos : Pos} {e : Expr} {f : EF} {p pos : Pos} (C : CcOk S k cc) (hb : cc.fns.all (fun e => !(e.x == ("enumerate" : Str))) = true) (hg : glB sc "enumerate" = true) (hs : notStar e = true) (h : CE S k E cc sc e f) :
    CI S k E cc sc (.Tuple ts n tpos) (.Call (.Name "enumerate" p) [e] [] pos) (iEn f) := by
  obtain ⟨t, pe, v⟩ := h
  have hm : S.mg "enumerate" = none := blt_none C hb (by decide)
  refine ⟨iEnumA S.K (tCons t tNil), fun X c => ?_, fun H0 G H σ env at0 => ?_⟩
  · obtain ⟨g1, g2, _⟩ := glB_ok c hg
    rw [← c.K]
    exact pi_enumA g1 (by rw [c.mg]; exact hm) (pa_cons (pe X c) pa_nil (star_cons hs)) (star_cons hs)
  · refine ev_fz (te := t) (kk := fun x H1 (R : It → Hp → Prop) => ∃ a xs, [x] = [V.ref a] ∧ ((SqL S.K H1 a xs ∧ R (Ite S.K a) H1) ∨ (SqT S.K H1 a xs ∧ R (IteT S.K a) H1))) (v H0 G H σ env at0) fun x d G2 H2 x2 r2 => ?_
    unfold itL
    split
    · rename_i xs e
      cases e
      obtain ⟨a, vs, rfl, h1, r1⟩ := DR.toLst r2
      refine EvG.now x2.gh fun Q q => ⟨a, vs, rfl, .inl ⟨SqL.of (x2.gh.xt.lst h1), q _ (rit_pair walk_enum (by rw [enum_len, r1.length]) (fun H' z => SqL.of (z.lst h1)) fun i x u v ei eu ev => ?_)⟩⟩
      obtain ⟨d, hd, rfl⟩ := enum_get xs 0 i x ei
      cases eu
      obtain ⟨v', hv, rv⟩ := r1.get hd
      rw [hv] at ev
      cases ev
      exact ⟨_, d, rfl, by rw [Nat.zero_add]; exact .int _, rv⟩
    · rename_i xs e
      cases e
      obtain ⟨a, vs, rfl, h1, r1⟩ := DR.toTup r2
      refine EvG.now x2.gh fun Q q => ⟨a, vs, rfl, .inr ⟨x2.gh.xt.sqT h1, q _ (rit_pair walk_enumT (by rw [enum_len, r1.length]) (fun H' z => z.sqT h1) fun i x u v ei eu ev => ?_)⟩⟩
      obtain ⟨d, hd, rfl⟩ := enum_get xs 0 i x ei
      cases eu
      obtain ⟨v', hv, rv⟩ := r1.get hd
      rw [hv] at ev
      cases ev
      exact ⟨_, d, rfl, by rw [Nat.zero_add]; exact .int _, rv⟩
    · exact EvG.stk
theorem zip_get : ∀ (xs ys : List D) (i : Nat) (x : D), (zipD xs ys)[i]? = some x → ∃ d e, xs[i]? = some d ∧ ys[i]? = some e ∧ x = .tuple [d, e]
  | [], _, _, _, h => by simp [zipD] at h
  | _ :: _, [], _, _, h => by simp [zipD] at h
  | d :: xs, e :: ys, 0, x, h => by
    simp [zipD] at h
    exact ⟨d, e, rfl, rfl, h.symm⟩
  | d :: xs, e :: ys, i + 1, x, h => by
    have h' : (zipD xs ys)[i]? = some x := by simpa [zipD] using h
    obtain ⟨a, b, h1, h2, h3⟩ := zip_get xs ys i x h'
    exact ⟨a, b, by simpa using h1, by simpa using h2, h3⟩
theorem zip_len : ∀ (xs ys : List D), (zipD xs ys).length = min xs.length ys.length
  | [], _ => by simp [zipD]
  | _ :: _, [] => by simp [zipD]
  | _ :: xs, _ :: ys => by simp [zipD, zip_len xs ys]
theorem ci_zip {ts : List Expr} {n : Nat} {tpos : Pos} {e e2 : Expr} {f g : EF} {p pos : Pos} (C : CcOk S k cc) (hb : cc.fns.all (fun e => !(e.x == ("zip" : Str))) = true) (hg : glB sc "zip" = true) (hs : notStar e = true) (hs2 : notStar e2 = true) (h : CE S k E cc sc e f) (h2 : CE S k E cc sc e2 g) :
    CI S k E cc sc (.Tuple ts n tpos) (.Call (.Name "zip" p) [e, e2] [] pos) (iZp f g) := by
  obtain ⟨t, pe, v⟩ := h
  obtain ⟨u, pu, w⟩ := h2
  have hm : S.mg "zip" = none := blt_none C hb (by decide)
  refine ⟨iZipM S.K (tCons t (tCons u tNil)), fun X c => ?_, fun H0 G H σ env at0 => ?_⟩
  · obtain ⟨g1, g2, _⟩ := glB_ok c hg
    rw [← c.K]
    exact pi_zipM g1 (by rw [c.mg]; exact hm) (pa_cons (pe X c) (pa_cons (pu X c) pa_nil (star_cons hs2)) (star_cons hs)) (star_cons hs) (by rw [back_any]; exact star_any (by rw [List.all_cons, hs2]; rfl))
  · refine ev_fz (te := t) (kk := fun x H1 (R : It → Hp → Prop) => u σ H1 fun y H2 => ∃ a b xs ys, [x, y] = [V.ref a, V.ref b] ∧ ((SqL S.K H2 a xs ∧ SqL S.K H2 b ys ∧ R (Itz S.K a b) H2) ∨ (SqT S.K H2 a xs ∧ SqT S.K H2 b ys ∧ R (RZ.ItzT S.K a b) H2) ∨ (SqL S.K H2 a xs ∧ SqT S.K H2 b ys ∧ R (ItzLT S.K a b) H2))) (v H0 G H σ env at0) fun x d G2 H2 x2 r2 => ?_
    refine ev_fz (R' := fun _ => RIt S H) (te := u) (kk := fun y H2 (R : It → Hp → Prop) => ∃ a b xs ys, [x, y] = [V.ref a, V.ref b] ∧ ((SqL S.K H2 a xs ∧ SqL S.K H2 b ys ∧ R (Itz S.K a b) H2) ∨ (SqT S.K H2 a xs ∧ SqT S.K H2 b ys ∧ R (RZ.ItzT S.K a b) H2) ∨ (SqL S.K H2 a xs ∧ SqT S.K H2 b ys ∧ R (ItzLT S.K a b) H2))) (w H0 G2 H2 σ env (at0.up x2)) fun y d2 G3 H3 x3 r3 => ?_
    have r2' := r2.up x3.g
    clear r2
    cases d <;> first | exact EvG.stk | skip
    · cases d2 <;> first | exact EvG.stk | skip
      · rename_i xs ys
        obtain ⟨a, vs, rfl, h1, r4⟩ := DR.toLst r2'
        obtain ⟨b, ws, rfl, h5, r5⟩ := DR.toLst r3
        refine EvG.now x3.gh fun Q q => ⟨a, b, vs, ws, rfl, .inl ⟨SqL.of (x3.gh.xt.lst h1), SqL.of (x3.gh.xt.lst h5), q _ (rit_pair (walk_zip (n := min vs.length ws.length) rfl) (by rw [zip_len, r4.length, r5.length]) (fun H' z => ⟨SqL.of (z.lst h1), SqL.of (z.lst h5)⟩) fun i x u v ei eu ev => ?_)⟩⟩
        obtain ⟨d, e, hd, he, rfl⟩ := zip_get xs ys i x ei
        obtain ⟨v1, hv1, rv1⟩ := r4.get hd
        obtain ⟨v2, hv2, rv2⟩ := r5.get he
        rw [hv1] at eu
        rw [hv2] at ev
        cases eu
        cases ev
        exact ⟨d, e, rfl, rv1, rv2⟩
      · rename_i xs ys
        obtain ⟨a, vs, rfl, h1, r4⟩ := DR.toLst r2'
        obtain ⟨b, ws, rfl, h5, r5⟩ := DR.toTup r3
        refine EvG.now x3.gh fun Q q => ⟨a, b, vs, ws, rfl, .inr (.inr ⟨SqL.of (x3.gh.xt.lst h1), x3.gh.xt.sqT h5, q _ (rit_pair (walk_zipLT (n := min vs.length ws.length) rfl) (by rw [zip_len, r4.length, r5.length]) (fun H' z => ⟨SqL.of (z.lst h1), z.sqT h5⟩) fun i x u v ei eu ev => ?_)⟩)⟩
        obtain ⟨d, e, hd, he, rfl⟩ := zip_get xs ys i x ei
        obtain ⟨v1, hv1, rv1⟩ := r4.get hd
        obtain ⟨v2, hv2, rv2⟩ := r5.get he
        rw [hv1] at eu
        rw [hv2] at ev
        cases eu
        cases ev
        exact ⟨d, e, rfl, rv1, rv2⟩
    · cases d2 <;> first | exact EvG.stk | skip
      rename_i xs ys
      obtain ⟨a, vs, rfl, h1, r4⟩ := DR.toTup r2'
      obtain ⟨b, ws, rfl, h5, r5⟩ := DR.toTup r3
      refine EvG.now x3.gh fun Q q => ⟨a, b, vs, ws, rfl, .inr (.inl ⟨x3.gh.xt.sqT h1, x3.gh.xt.sqT h5, q _ (rit_pair (walk_zipT (n := min vs.length ws.length) rfl) (by rw [zip_len, r4.length, r5.length]) (fun H' z => ⟨z.sqT h1, z.sqT h5⟩) fun i x u v ei eu ev => ?_)⟩)⟩
      obtain ⟨d, e, hd, he, rfl⟩ := zip_get xs ys i x ei
      obtain ⟨v1, hv1, rv1⟩ := r4.get hd
      obtain ⟨v2, hv2, rv2⟩ := r5.get he
      rw [hv1] at eu
      rw [hv2] at ev
      cases eu
      cases ev
      exact ⟨d, e, rfl, rv1, rv2⟩
end
end PD
/-! comprehensions -/
namespace PD
open PySem PySem.Spec PyProof.Rows L2
/-- one turn of a comprehension: what it gives -/
def lcOne (g : GF) (t : TF) (el : EF) (env : List L) (x : D) : M (List D) := match g x env with
  | .ok env2 => (match t env2 with
    | .ok true => (match el env2 with
      | .ok l => (match l.fz with
        | .ok y => .ok [y]
        | _ => .stuck)
      | _ => .stuck)
    | .ok false => .ok []
    | _ => .stuck)
  | _ => .stuck
def lcGo (g : GF) (t : TF) (el : EF) (env : List L) : List D → M (List D)
  | [] => .ok []
  | x :: r => match lcOne g t el env x with
    | .ok ys => (match lcGo g t el env r with
      | .ok zs => .ok (ys ++ zs)
      | _ => .stuck)
    | _ => .stuck
def wipeE (env : List L) : List Nat → List L
  | [] => env
  | v :: vs => (wipeE env vs).set v .un
def eLc (own : List Nat) (it : IF) (g : GF) (t : TF) (el : EF) : EF := fun env => (it env).bind fun xs => if xs.length ≤ cap then (match lcGo g t el (wipeE env own) xs with
  | .ok ys => .ok (.fr ys)
  | _ => .stuck) else .stuck
theorem lcGo_append {g : GF} {t : TF} {el : EF} {env : List L} : ∀ {a b : List D} {zs : List D}, lcGo g t el env (a ++ b) = .ok zs → ∃ xs ys, lcGo g t el env a = .ok xs ∧ lcGo g t el env b = .ok ys ∧ zs = xs ++ ys
  | [], b, zs, h => ⟨[], zs, rfl, h, rfl⟩
  | x :: a, b, zs, h => by
    have h' : (match lcOne g t el env x with
      | .ok ys => (match lcGo g t el env (a ++ b) with
        | .ok zs => .ok (ys ++ zs)
        | _ => .stuck)
      | _ => .stuck) = M.ok zs := h
    cases e1 : lcOne g t el env x with
    | stuck => rw [e1] at h'; cases h'
    | ex c => rw [e1] at h'; cases h'
    | ok ys =>
      rw [e1] at h'
      cases e2 : lcGo g t el env (a ++ b) with
      | stuck => rw [e2] at h'; cases h'
      | ex c => rw [e2] at h'; cases h'
      | ok ws =>
        rw [e2] at h'
        obtain ⟨us, vs, h1, h2, h3⟩ := lcGo_append e2
        refine ⟨ys ++ us, vs, ?_, h2, ?_⟩
        · show (match lcOne g t el env x with
            | .ok ys => (match lcGo g t el env a with
              | .ok zs => .ok (ys ++ zs)
              | _ => .stuck)
            | _ => .stuck) = M.ok (ys ++ us)
          rw [e1, h1]
        · have h4 : ys ++ ws = zs := by injection h'
          rw [← h4, h3, List.append_assoc]
theorem lcOne_len {g : GF} {t : TF} {el : EF} {env : List L} {x : D} {ys : List D} (h : lcOne g t el env x = .ok ys) : ys.length ≤ 1 := by
  unfold lcOne at h
  split at h
  · split at h
    · split at h
      · split at h
        · cases h; simp
        · cases h
      · cases h
    · cases h; simp
    · cases h
  · cases h
theorem lcGo_len {g : GF} {t : TF} {el : EF} {env : List L} : ∀ {xs ys : List D}, lcGo g t el env xs = .ok ys → ys.length ≤ xs.length
  | [], ys, h => by cases h; simp
  | x :: r, ys, h => by
    have h' : (match lcOne g t el env x with
      | .ok ys => (match lcGo g t el env r with
        | .ok zs => .ok (ys ++ zs)
        | _ => .stuck)
      | _ => .stuck) = M.ok ys := h
    cases e1 : lcOne g t el env x with
    | stuck => rw [e1] at h'; cases h'
    | ex c => rw [e1] at h'; cases h'
    | ok us =>
      rw [e1] at h'
      cases e2 : lcGo g t el env r with
      | stuck => rw [e2] at h'; cases h'
      | ex c => rw [e2] at h'; cases h'
      | ok ws =>
        rw [e2] at h'
        have h4 : us ++ ws = ys := by injection h'
        have h5 := lcOne_len e1
        have h6 := lcGo_len e2
        rw [← h4, List.length_append, List.length_cons]
        omega
section
variable {S : Sys} {k : Nat} {E : XK} {cc : CC} {sc : SC}
/-- one of the new lists changes -/
theorem Gr.mut {G H G1 H1 : Hp} {p : Addr} {us vs : List V} (x : Gr S G H G1 H1) (hp : H p = none) (hg : G1 p = none) (h1 : H1 p = some (.lst us)) : Gr S G H G1 (upd H1 p (.lst vs)) :=
  ⟨fun b o e n => by
    have hb : b ≠ p := ne_of_none e hp
    rw [upd_ne hb]
    exact x.h b o e n, x.g, fun b o e => by
    have hb : b ≠ p := ne_of_none e hg
    rw [upd_ne hb]
    exact x.gh b o e, x.n, fun q e => by
    by_cases hq : q = p
    · rw [hq]; exact hp
    · rw [upd_ne hq] at e
      exact x.dom q e, fun h => tabs_lst (x.t h) h1⟩
theorem Gr.mutK {G H G1 H1 : Hp} {p : Addr} {us vs : List (Key × V)} (x : Gr S G H G1 H1) (hp : H p = none) (hg : G1 p = none) (h1 : H1 p = some (.dK us)) : Gr S G H G1 (upd H1 p (.dK vs)) :=
  ⟨fun b o e n => by
    have hb : b ≠ p := ne_of_none e hp
    rw [upd_ne hb]
    exact x.h b o e n, x.g, fun b o e => by
    have hb : b ≠ p := ne_of_none e hg
    rw [upd_ne hb]
    exact x.gh b o e, x.n, fun q e => by
    by_cases hq : q = p
    · rw [hq]; exact hp
    · rw [upd_ne hq] at e
      exact x.dom q e, fun h => tabs_dK (x.t h) h1⟩
theorem EnvR.wipe {H0 G H : Hp} {σ : L2.St} {env : List L} (h : EnvR S H0 G H σ env) : ∀ vs : List Nat, EnvR S H0 G H (wipe σ vs) (wipeE env vs)
  | [] => h
  | v :: vs => (EnvR.wipe h vs).setU v none
/-- the tests of a comprehension -/
def CTs (S : Sys) (k : Nat) (E : XK) (cc : CC) (sc : SC) (ifs : List Expr) (f : TF) : Prop := ∃ t : TT, (∀ X, CtxOk S k E cc sc X → PTs X ifs t) ∧ ∀ H0 G H σ env, At S H0 G H σ env → EvB S E t σ G H (f env)
theorem cts_nil : CTs S k E cc sc [] tTrue := ⟨tYes, fun X c => pts_nil, fun H0 G H σ env at0 => EvG.now at0.sb fun Q q => q true rfl⟩
theorem cts_one {e : Expr} {f : TF} (h : CT S k E cc sc e f) : CTs S k E cc sc [e] f := by
  obtain ⟨t, p, v⟩ := h
  exact ⟨t, fun X c => pts_one (p X c), v⟩
def blkSC (scope : Scope) (sc : SC) : SC := ⟨relS scope sc.sc, fun x => scope.names.lookup x == some .cell, sc.lam⟩
theorem passLN {X : Cx} : Passes (L2N.CX X.prog X.w) X E0 := fun _ _ _ _ _ _ _ h => by
  obtain ⟨_, _, _, _, _, _, _, _, _, _, _, _, z⟩ := h
  exact z.elim
theorem ctx_blk {X : Cx} {scope : Scope} (c : CtxOk S k E cc sc X) (s : Shared) (H : Hp) (C : Addr) (cl : List (Str × Addr)) (fp : List Addr) : CtxOk S k E0 cc (blkSC scope sc) (X.blk s H scope (compEnvC scope cl C X.env) fp) := by
  refine ⟨c.P, c.w, c.K, c.mg, c.base, c.N, c.nd, c.calm, ?_, rfl, c.room, ?_, c.lam⟩
  · show relS scope X.env.scope = relS scope sc.sc
    rw [c.scp]
  · have h := passLN (X := X.blk s H scope (compEnvC scope cl C X.env) fp)
    rw [← c.P, ← c.w]
    exact h
/-- the parts of a comprehension -/
theorem lc_parts {tg iter elt : Expr} {ifs : List Expr} {scope : Scope} {own : List (Str × Nat)} {sl : List Nat} {it : IF} {g : GF} {t : TF} {el : EF} (hi : CI S k E cc sc tg iter it) (hg : CG S k E0 cc (blkSC scope sc) tg sl g) (hsl : ∀ i ∈ sl, i ∈ own.map (·.2))
    (ht : CTs S k E0 cc (blkSC scope sc) ifs t) (he : CE S k E0 cc (blkSC scope sc) elt el) :
    ∃ (wi : TI) (gt : TG) (tt : TT) (te : TE), (∀ X, CtxOk S k E cc sc X → PI X tg iter wi) ∧ (∀ X, CtxOk S k E cc sc X → ∀ s H C cl fp, PG (X.blk s H scope (compEnvC scope cl C X.env) fp) tg gt) ∧
      (∀ X, CtxOk S k E cc sc X → ∀ s H C cl fp, PTs (X.blk s H scope (compEnvC scope cl C X.env) fp) ifs tt) ∧ (∀ X, CtxOk S k E cc sc X → ∀ s H C cl fp, PE (X.blk s H scope (compEnvC scope cl C X.env) fp) elt te) ∧
      ∀ H0 G H σ env, At S H0 G H σ env → EvW S E (tLc wi gt tt te (own.map (·.2))) σ G H (eLc (own.map (·.2)) it g t el env) := by
  obtain ⟨wi, pw, vw⟩ := hi
  obtain ⟨gt, pg, vg⟩ := hg
  obtain ⟨tt, pt, vt⟩ := ht
  obtain ⟨te, pe, ve⟩ := he
  refine ⟨wi, gt, tt, te, pw, fun X c s H C cl fp => pg _ (ctx_blk c s H C cl fp), fun X c s H C cl fp => pt _ (ctx_blk c s H C cl fp), fun X c s H C cl fp => pe _ (ctx_blk c s H C cl fp), fun H0 G H σ env at0 => ?_⟩
  generalize hvs : own.map (·.2) = vs at hsl
  refine EvG.bind (tq := wi σ H) (k := fun J H1 (Q : VK) => ∀ D, H1 D = none → ∃ W : Nat → Nat → Hp → Prop, (∃ m, W 0 m (upd H1 D (.lst []))) ∧ ∀ i m H, W i m H →
    (J.stop i H ∧ Q (V.ref D) H) ∨ (J.go i H ∧ ∃ Nx : Hp → Prop, (∀ H', Nx H' → ∃ m', m' < m ∧ W (i + 1) m' H') ∧ ∀ x H', J.yld i H x H' → gt x (wipe σ vs) H' fun σ2 H2 => wipe σ2 vs = wipe σ vs ∧ tt σ2 H2 fun b H3 =>
      if b = true then te σ2 H3 fun y H4 => ∃ acc, H4 D = some (.lst acc) ∧ acc.length < sizeLine ∧ Nx (upd H4 D (.lst (acc ++ [y]))) else Nx H3)) (vw H0 G H σ env at0) fun J xs G1 H1 _ x1 r1 => ⟨G1, x1, ?_⟩
  split
  · rename_i hcap
    cases ego : lcGo g t el (wipeE env vs) xs with
    | stuck => exact EvG.stk
    | ex c => exact EvG.stk
    | ok all =>
      obtain ⟨Gd, Y, w, hGd, hY⟩ := r1
      have at1 := at0.up x1
      refine fun Q q D hD => lc_it w (fun i H => ∃ G ys us, Gr S G1 H1 G H ∧ H D = some (.lst us) ∧ G D = none ∧ DRs S.K G us ys ∧ lcGo g t el (wipeE env vs) (xs.take i) = .ok ys) ?_ ?_ ?_ ?_
      · exact ⟨G1, [], [], Gr.new x1.gh hD, upd_same, x1.gh.none hD, .nil, rfl⟩
      · rintro i H' _ ⟨G', ys, us, x, h1, h2, h3, h4⟩
        exact hGd H' (x.g.trans x.gh.xt)
      · rintro i v H' H'' hi ⟨G', ys, us, x, h1, h2, h3, h4⟩ y
        have exi : xs[i]? = some xs[i] := List.getElem?_eq_getElem hi
        obtain ⟨G3, x3, rv⟩ := hY i xs[i] G' H' v H'' exi x.g x.gh y
        have etake : xs.take (i + 1) = xs.take i ++ [xs[i]] := by rw [List.take_add_one, exi]; rfl
        have eall : xs = xs.take (i + 1) ++ xs.drop (i + 1) := (List.take_append_drop _ _).symm
        have ego' := ego
        rw [eall] at ego'
        obtain ⟨as, bs, ea, _, _⟩ := lcGo_append ego'
        have ea0 := ea
        rw [etake] at ea
        obtain ⟨cs, ds, ec, ed, ecd⟩ := lcGo_append ea
        rw [h4] at ec
        have ecs : cs = ys := by injection ec with z; exact z.symm
        subst ecs
        have eone : ∃ ws, lcOne g t el (wipeE env vs) xs[i] = .ok ws ∧ ds = ws := by
          have h' : (match lcOne g t el (wipeE env vs) xs[i] with
            | .ok ys => (match lcGo g t el (wipeE env vs) [] with
              | .ok zs => .ok (ys ++ zs)
              | _ => .stuck)
            | _ => .stuck) = M.ok ds := ed
          cases e1 : lcOne g t el (wipeE env vs) xs[i] with
          | stuck => rw [e1] at h'; cases h'
          | ex c => rw [e1] at h'; cases h'
          | ok ws =>
            rw [e1] at h'
            refine ⟨ws, rfl, ?_⟩
            have h5 : ws ++ [] = ds := by injection h'
            rw [← h5, List.append_nil]
        obtain ⟨ws, e1, rfl⟩ := eone
        have xx := x.trans x3
        have atW : At S H0 G3 H'' (wipe σ vs) (wipeE env vs) := ⟨xx.gh, xx.t at1.tb, (at1.env.wipe vs).up xx⟩
        have hD3 : H'' D = some (.lst us) := x3.h.lst h1
        have gD3 : G3 D = none := x3.n D (fun z => by rw [h1] at z; cases z) h2
        -- the turn
        unfold lcOne at e1
        cases eg : g xs[i] (wipeE env vs) with
        | stuck => rw [eg] at e1; cases e1
        | ex c => rw [eg] at e1; cases e1
        | ok env2 =>
          rw [eg] at e1
          simp only [] at e1
          refine vg H0 G3 H'' _ _ v _ env2 atW rv eg _ fun σ2 r2 w2 => ⟨by rw [w2 vs hsl, wipe_idem], ?_⟩
          have at2 : At S H0 G3 H'' σ2 env2 := ⟨xx.gh, xx.t at1.tb, r2⟩
          have ev := vt H0 G3 H'' σ2 env2 at2
          cases et : t env2 with
          | stuck => rw [et] at e1; cases e1
          | ex c => rw [et] at e1; cases e1
          | ok b =>
            rw [et] at e1 ev
            refine ev _ fun b' G4 H4 x4 eb => ?_
            have eb : b' = b := eb
            subst eb
            have at4 := at2.up x4
            have hD4 : H4 D = some (.lst us) := x4.h.lst hD3
            have gD4 : G4 D = none := x4.n D (fun z => by rw [hD3] at z; cases z) gD3
            cases b' with
            | false =>
              have ew : ds = [] := by injection e1 with z; exact z.symm
              subst ew
              exact ⟨G4, cs, us, xx.trans x4, hD4, gD4, (h3.up x3.g).up x4.g, by rw [ea0, ecd, List.append_nil]⟩
            | true =>
              show te σ2 H4 _
              have e1' : (match el env2 with
                | .ok l => (match l.fz with
                  | .ok y => .ok [y]
                  | _ => .stuck)
                | _ => .stuck) = M.ok ds := e1
              have ev := ve H0 G4 H4 σ2 env2 at4
              cases ee : el env2 with
              | stuck => rw [ee] at e1'; cases e1'
              | ex c => rw [ee] at e1'; cases e1'
              | ok l =>
                rw [ee] at e1' ev
                cases ef : l.fz with
                | stuck => simp only [ef] at e1'; cases e1'
                | ex c => simp only [ef] at e1'; cases e1'
                | ok yd =>
                  simp only [ef] at e1'
                  have ew : ds = [yd] := by injection e1' with z; exact z.symm
                  subst ew
                  refine ev _ fun yv G5 H5 x5 ry => ?_
                  obtain ⟨G6, x6, ry6⟩ := ry.fz x5 ef
                  have hD5 : H5 D = some (.lst us) := x6.h.lst hD4
                  have gD5 : G6 D = none := x6.n D (fun z => by rw [hD4] at z; cases z) gD4
                  have hlen : us.length < sizeLine := by
                    have h5 := lcGo_len h4
                    rw [h3.length]
                    rw [List.length_take] at h5
                    exact cap_lt (by omega)
                  exact ⟨us, hD5, hlen, G6, cs ++ [yd], us ++ [yv], ((xx.trans x4).trans x6).mut hD gD5 hD5, upd_same, gD5, (((h3.up x3.g).up x4.g).up x6.g).append (.cons ry6 .nil), by rw [ea0, ecd]⟩
      · rintro H' ⟨G', ys, us, x, h1, h2, h3, h4⟩
        rw [List.take_length, ego] at h4
        have e : ys = all := by injection h4 with z; exact z.symm
        subst e
        exact q _ G' H' x ⟨D, us, rfl, x1.dom D hD, h2, h1, h3⟩
  · exact EvG.stk
def notSet : Expr → Bool
  | .Set _ _ _ => false
  | _ => true
theorem notSet_ok {e : Expr} {env : Env} (h : notSet e = true) : ∀ x, foldedSetIterable e env x = pure x := by
  intro x
  cases e <;> first | rfl | cases h
theorem ce_lc {tg iter elt : Expr} {ifs : List Expr} {scope : Scope} {own : List (Str × Nat)} {sl : List Nat} {it : IF} {g : GF} {t : TF} {el : EF} {pos : Pos} (hns : notSet iter = true) (hok : blkC cc.N sc.sc scope own = true) (hi : CI S k E cc sc tg iter it) (hg : CG S k E0 cc (blkSC scope sc) tg sl g) (hsl : ∀ i ∈ sl, i ∈ own.map (·.2))
    (ht : CTs S k E0 cc (blkSC scope sc) ifs t) (he : CE S k E0 cc (blkSC scope sc) elt el) : CE S k E cc sc (.ListComp elt [⟨tg, iter, ifs, 0⟩] scope pos) (eLc (own.map (·.2)) it g t el) := by
  obtain ⟨wi, gt, tt, te, h1, h2, h3, h4, h5⟩ := lc_parts hi hg hsl ht he
  exact ⟨_, fun X c => pe_lc c.calm (by rw [c.N]; exact c.nd) (h1 X c) (by rw [c.N, c.scp]; exact blkOk_by hok) (h2 X c) (h3 X c) (h4 X c) (notSet_ok hns), h5⟩
end
end PD
/-! statements -/
namespace PD
open PySem PySem.Spec PyProof.Rows L2
inductive R where
  | nx (env : List L) | rt (d : D) | bk (env : List L) | ct (env : List L)
abbrev SF := List L → M R
section
variable (S : Sys) (E : XK) (G0 H0 : Hp)
structure StA (G H : Hp) (σ : L2.St) (env : List L) : Prop where
  gr : Gr S G0 H0 G H
  tb : LamX.Tabs S.T H0
  env : EnvR S H0 G H σ env
def EvS (t : TS) (σ : L2.St) (H : Hp) : M R → Prop
  | .stuck => True
  | .ex c => ∀ D : Ends, (∀ G2 H2, Gr S G0 H0 G2 H2 → E (.ref (S.ca c)) none H2) → t D σ H
  | .ok (.nx env') => ∀ D : Ends, (∀ σ' G' H', StA S G0 H0 G' H' σ' env' → D.nx σ' H') → t D σ H
  | .ok (.rt d) => ∀ D : Ends, (∀ v G' H', Gr S G0 H0 G' H' → DR S.K G' v d → D.rt v H') → t D σ H
  | .ok (.bk env') => ∀ D : Ends, (∀ σ' G' H', StA S G0 H0 G' H' σ' env' → D.bk σ' H') → t D σ H
  | .ok (.ct env') => ∀ D : Ends, (∀ σ' G' H', StA S G0 H0 G' H' σ' env' → D.ct σ' H') → t D σ H
end
theorem StA.at {S : Sys} {G0 H0 G H : Hp} {σ : L2.St} {env : List L} (a : StA S G0 H0 G H σ env) : At S H0 G H σ env := ⟨a.gr.gh, a.gr.t a.tb, a.env⟩
theorem StA.up {S : Sys} {G0 H0 G H G1 H1 : Hp} {σ : L2.St} {env : List L} (a : StA S G0 H0 G H σ env) (x : Gr S G H G1 H1) : StA S G0 H0 G1 H1 σ env := ⟨a.gr.trans x, a.tb, a.env.up x⟩
/-- a body's context -/
structure CtxS (S : Sys) (k : Nat) (E : XK) (cc : CC) (sc : SC) (X : Cx) : Prop extends CtxOk S k E cc sc X where
  tk : L2N.Takes X (fun cls d _ H => E cls d H)
  po : PassesOwn (model X.prog X.w) X.A X.env X.xe
section
variable (S : Sys) (k : Nat) (E : XK) (cc : CC) (sc : SC)
def CS (st : Stmt) (f : SF) : Prop := ∃ t : TS, (∀ X, CtxS S k E cc sc X → PS X st t) ∧ ∀ G0 H0 G H σ env, StA S G0 H0 G H σ env → EvS S E G0 H0 t σ H (f env)
def CSs (st : List Stmt) (f : SF) : Prop := ∃ t : TS, (∀ X, CtxS S k E cc sc X → PSs X st t) ∧ ∀ G0 H0 G H σ env, StA S G0 H0 G H σ env → EvS S E G0 H0 t σ H (f env)
end
/-! ### freezing -/
def frz1 (env : List L) (i : Nat) : List L := match env[i]? with
  | some (.own xs) => env.set i (.d (.list xs))
  | some (.dc ks ds) => env.set i (.d (dicD ks ds))
  | _ => env
def fzE : List Nat → List L → List L
  | [], env => env
  | i :: is, env => fzE is (frz1 env i)
section
variable {S : Sys} {k : Nat} {E : XK} {cc : CC} {sc : SC} {G0 H0 : Hp}
theorem StA.frz1 {G H : Hp} {σ : L2.St} {env : List L} (a : StA S G0 H0 G H σ env) (i : Nat) : ∃ G', StA S G0 H0 G' H σ (frz1 env i) := by
  unfold PD.frz1
  split
  · rename_i xs e
    obtain ⟨p, vs, h1, z, g, hp, r, _, c⟩ := a.env.write e
    exact ⟨_, a.gr.frz z g hp (fun ps q => by cases q), a.tb, c⟩
  · rename_i ks ds e
    obtain ⟨p, vs, h1, z, g, hp, hl, r, _, c⟩ := a.env.writeK e
    exact ⟨_, a.gr.frz z g hp (fun ps q => by cases q), a.tb, c⟩
  · exact ⟨G, a⟩
theorem StA.fz {H : Hp} {σ : L2.St} : ∀ (is : List Nat) {G : Hp} {env : List L}, StA S G0 H0 G H σ env → ∃ G', StA S G0 H0 G' H σ (fzE is env)
  | [], G, env, a => ⟨G, a⟩
  | i :: is, G, env, a => by
    obtain ⟨G1, a1⟩ := a.frz1 i
    exact StA.fz is a1
/-! ### one after another -/
def sNil : SF := fun env => .ok (.nx env)
def sSeq (f g : SF) : SF := fun env => match f env with
  | .ok (.nx env2) => g env2
  | r => r
theorem css_nil : CSs S k E cc sc [] sNil := ⟨tNext, fun X c => pss_nil, fun G0 H0 G H σ env a D q => q σ G H a⟩
theorem ev_seq {t u : TS} {σ : L2.St} {H : Hp} {r : M R} {g : SF} (h : EvS S E G0 H0 t σ H r) (h2 : ∀ G H σ env, StA S G0 H0 G H σ env → EvS S E G0 H0 u σ H (g env)) :
    EvS S E G0 H0 (tSeq t u) σ H (match (generalizing := false) r with
      | .ok (.nx env2) => g env2
      | r => r) := by
  cases r with
  | stuck => exact True.intro
  | ex c => exact fun D q => h _ q
  | ok r =>
    cases r with
    | nx env' =>
      show EvS S E G0 H0 (tSeq t u) σ H (g env')
      cases e : g env' with
      | stuck => exact True.intro
      | ex c =>
        refine fun D q => h _ fun σ' G' H' a => ?_
        have h3 := h2 G' H' σ' env' a
        rw [e] at h3
        exact h3 D q
      | ok r2 =>
        cases r2 with
        | nx e2 =>
          refine fun D q => h _ fun σ' G' H' a => ?_
          have h3 := h2 G' H' σ' env' a
          rw [e] at h3
          exact h3 D q
        | rt d =>
          refine fun D q => h _ fun σ' G' H' a => ?_
          have h3 := h2 G' H' σ' env' a
          rw [e] at h3
          exact h3 D q
        | bk e2 =>
          refine fun D q => h _ fun σ' G' H' a => ?_
          have h3 := h2 G' H' σ' env' a
          rw [e] at h3
          exact h3 D q
        | ct e2 =>
          refine fun D q => h _ fun σ' G' H' a => ?_
          have h3 := h2 G' H' σ' env' a
          rw [e] at h3
          exact h3 D q
    | rt d => exact fun D q => h _ q
    | bk env' => exact fun D q => h _ q
    | ct env' => exact fun D q => h _ q
theorem css_cons {st : Stmt} {rest : List Stmt} {f g : SF} (h : CS S k E cc sc st f) (hr : CSs S k E cc sc rest g) : CSs S k E cc sc (st :: rest) (sSeq f g) := by
  obtain ⟨t, p, v⟩ := h
  obtain ⟨u, q, w⟩ := hr
  refine ⟨tSeq t u, fun X c => pss_cons (p X c) (q X c), fun G0 H0 G H σ env a => ?_⟩
  exact ev_seq (v G0 H0 G H σ env a) fun G H σ env a => w G0 H0 G H σ env a
theorem css_one {st : Stmt} {f : SF} (h : CS S k E cc sc st f) : CSs S k E cc sc [st] f := by
  obtain ⟨t, p, v⟩ := h
  exact ⟨t, fun X c => pss_one (p X c), v⟩
/-- from an expression's run on -/
theorem ev_exp {te : TE} {kk : Ends → V → Hp → Prop} {σ : L2.St} {G H : Hp} {env : List L} {r : M L} {g : L → M R} (a : StA S G0 H0 G H σ env) (h : EvW S E te σ G H r)
    (hk : ∀ x l G2 H2, Gr S G H G2 H2 → WR S H G2 H2 x l → EvS S E G0 H0 (fun D _ H2 => kk D x H2) σ H2 (g l)) : EvS S E G0 H0 (fun D σ H => te σ H fun x H1 => kk D x H1) σ H (r.bind g) := by
  cases r with
  | stuck => exact True.intro
  | ex c => exact fun D q => h _ fun G2 H2 x => q G2 H2 (a.gr.trans x)
  | ok l =>
    show EvS S E G0 H0 _ σ H (g l)
    cases e : g l with
    | stuck => exact True.intro
    | ex c =>
      refine fun D q => h _ fun x G2 H2 gr rx => ?_
      have h2 := hk x l G2 H2 gr rx
      rw [e] at h2
      exact h2 D q
    | ok r2 =>
      cases r2 with
      | nx e2 =>
        refine fun D q => h _ fun x G2 H2 gr rx => ?_
        have h2 := hk x l G2 H2 gr rx
        rw [e] at h2
        exact h2 D q
      | rt e2 =>
        refine fun D q => h _ fun x G2 H2 gr rx => ?_
        have h2 := hk x l G2 H2 gr rx
        rw [e] at h2
        exact h2 D q
      | bk e2 =>
        refine fun D q => h _ fun x G2 H2 gr rx => ?_
        have h2 := hk x l G2 H2 gr rx
        rw [e] at h2
        exact h2 D q
      | ct e2 =>
        refine fun D q => h _ fun x G2 H2 gr rx => ?_
        have h2 := hk x l G2 H2 gr rx
        rw [e] at h2
        exact h2 D q
/-! ### expression statements, assignments, return -/
def notComp : Expr → Bool
  | .ListComp _ _ _ _ => false
  | .SetComp _ _ _ _ => false
  | .DictComp _ _ _ _ _ => false
  | _ => true
theorem notComp_ok {e : Expr} {o : Option Expr} {n : Nat} {env : Env} (h : notComp e = true) : swapsWith e o n env = pure false := by
  cases e <;> first | rfl | cases h
def sExp (is : List Nat) (f : EF) : SF := fun env => (f (fzE is env)).bind fun _ => .ok (.nx (fzE is env))
theorem cs_exp {e : Expr} {f : EF} {pos : Pos} (is : List Nat) (hc : notComp e = true) (h : CE S k E cc sc e f) : CS S k E cc sc (.Expr e pos) (sExp is f) := by
  obtain ⟨t, p, v⟩ := h
  refine ⟨tDrop t, fun X c => ps_expr (p X c.toCtxOk) (notComp_ok hc), fun G0 H0 G H σ env a0 => ?_⟩
  obtain ⟨G', a⟩ := a0.fz is
  exact ev_exp (kk := fun D _ H1 => D.nx σ H1) a (v H0 G' H σ _ a.at) fun x l G2 H2 gr rx D q => q σ G2 H2 (a.up gr)
def putL (i : Nat) (env : List L) : L → M R
  | .d x => .ok (.nx (env.set i (.d x)))
  | .fr xs => .ok (.nx (env.set i (.own xs)))
  | _ => .stuck
def sAsg (is : List Nat) (i : Nat) (f : EF) : SF := fun env => (f (fzE is env)).bind (putL i (fzE is env))
theorem put_ok {i : Nat} {σ : L2.St} {G H G2 H2 : Hp} {env : List L} {x : V} {l : L} (a : StA S G0 H0 G H σ env) (gr : Gr S G H G2 H2) (rx : WR S H G2 H2 x l) {t : TS} (ht : ∀ D : Ends, D.nx (σ.set i (some x)) H2 → t D σ H2) :
    EvS S E G0 H0 t σ H2 (putL i env l) := by
  have a2 := a.up gr
  cases l with
  | un => exact True.intro
  | d y => exact fun D q => ht D (q _ G2 H2 ⟨a2.gr, a.tb, a2.env.setD i rx⟩)
  | own xs => exact True.intro
  | fr xs =>
    obtain ⟨p, us, rfl, hp, hg, h2, r⟩ := rx
    refine fun D q => ht D (q _ G2 H2 ⟨a2.gr, a.tb, a2.env.setN i (a.gr.dom p hp) hg h2 r fun j sv l as e1 e2 e3 => ?_⟩)
    obtain ⟨sv', as', f1, f2⟩ := a.env.get e2
    rw [e1] at f1
    cases f1
    cases l with
    | un =>
      have z : as = [] := e3
      subst z
      simp
    | d y =>
      obtain ⟨rfl, _⟩ := e3
      simp
    | own ys =>
      obtain ⟨q1, w1, rfl, z1, _⟩ := e3
      obtain ⟨q2, w2, _, z2, _, _, z3, _⟩ := f2
      rw [z1] at z2
      cases z2
      intro hm
      have : p = q1 := by simpa using hm
      subst this
      rw [hp] at z3
      cases z3
    | fr ys => exact e3.elim
    | dc ks ds =>
      obtain ⟨q1, w1, rfl, z1, _⟩ := e3
      obtain ⟨q2, w2, _, z2, _, _, z3, _⟩ := f2
      rw [z1] at z2
      cases z2
      intro hm
      have : p = q1 := by simpa using hm
      subst this
      rw [hp] at z3
      cases z3
  | dc ks ds => exact True.intro
theorem cs_asg {x : Str} {i : Nat} {e : Expr} {f : EF} {pos pos' : Pos} (is : List Nat) (hi : cc.N[i]? = some x) (hl : locB sc x = true) (hc : notComp e = true) (h : CE S k E cc sc e f) : CS S k E cc sc (.Assign [.Name x pos'] e pos) (sAsg is i f) := by
  obtain ⟨t, p, v⟩ := h
  obtain ⟨h1, h2⟩ := locB_ok hl
  refine ⟨tAsg t (gName i), fun X c => ps_set (by rw [c.N]; exact c.nd) (by rw [c.N]; exact hi) (by rw [c.scp]; exact h1) (p X c.toCtxOk) (notComp_ok hc) (by rw [c.fn, c.scp]; exact h2), fun G0 H0 G H σ env a0 => ?_⟩
  obtain ⟨G', a⟩ := a0.fz is
  exact ev_exp (kk := fun D x H1 => D.nx (σ.set i (some x)) H1) a (v H0 G' H σ _ a.at) fun x l G2 H2 gr rx => put_ok (t := fun D _ H2 => D.nx (σ.set i (some x)) H2) a gr rx fun D q => q
/-- x = [..] -/
def swB (sc : SC) (x : Str) (own : Scope) (l1 l2 : Nat) : Bool := decide (sc.sc.kind = .function) && (decide (sc.sc.names.lookup x = some .local) && (l1 == l2 && !(own.names.any fun (n, k) => n == x && (k == .local || k == .cell))))
theorem cs_asgLc {x : Str} {i : Nat} {tg iter elt : Expr} {ifs : List Expr} {scope : Scope} {own : List (Str × Nat)} {sl : List Nat} {it : IF} {g : GF} {tf : TF} {el : EF} {pos pos' spos : Pos} (is : List Nat) (hi : cc.N[i]? = some x) (hl : locB sc x = true) (hns : notSet iter = true)
    (hok : blkC cc.N sc.sc scope own = true) (hI : CI S k E cc sc tg iter it) (hg : CG S k E0 cc (blkSC scope sc) tg sl g) (hsl : ∀ i ∈ sl, i ∈ own.map (·.2)) (ht : CTs S k E0 cc (blkSC scope sc) ifs tf) (he : CE S k E0 cc (blkSC scope sc) elt el) :
    CS S k E cc sc (.Assign [.Name x pos'] (.ListComp elt [⟨tg, iter, ifs, 0⟩] scope pos) spos) (sAsg is i (eLc (own.map (·.2)) it g tf el)) := by
  obtain ⟨wi, gt, tt, te, h1, h2, h3, h4, h5⟩ := lc_parts hI hg hsl ht he
  obtain ⟨l1, l2⟩ := locB_ok hl
  refine ⟨tAsg (tLc wi gt tt te (own.map (·.2))) (gName i), fun X c => ?_, fun G0 H0 G H σ env a0 => ?_⟩
  · have c0 := c.toCtxOk
    have sw : swapsWith (.ListComp elt [⟨tg, iter, ifs, 0⟩] scope pos) (some (.Name x pos')) spos.line X.env = pure (X.env.blockKind == .function && X.env.kindOf x == some .local && pos'.line == pos.line && !(scope.names.any fun (n, k) => n == x && (k == .local || k == .cell))) := rfl
    by_cases hb : (X.env.blockKind == .function && X.env.kindOf x == some .local && pos'.line == pos.line && !(scope.names.any fun (n, k) => n == x && (k == .local || k == .cell))) = true
    · rw [hb] at sw
      have hloc : X.env.scope.names.lookup x = some .local := by
        simp only [Bool.and_eq_true, beq_iff_eq] at hb
        exact hb.1.1.2
      exact ps_setLc c.calm (by rw [c.N]; exact c.nd) (by rw [c.N]; exact hi) hloc sw (h1 X c0) (by rw [c.N, c.scp]; exact blkOk_by hok) (h2 X c0) (h3 X c0) (h4 X c0) (notSet_ok hns)
    · have hb' : (X.env.blockKind == .function && X.env.kindOf x == some .local && pos'.line == pos.line && !(scope.names.any fun (n, k) => n == x && (k == .local || k == .cell))) = false := Bool.eq_false_iff.mpr hb
      rw [hb'] at sw
      exact ps_set (by rw [c.N]; exact c.nd) (by rw [c.N]; exact hi) (by rw [c.scp]; exact l1) (pe_lc c.calm (by rw [c.N]; exact c.nd) (h1 X c0) (by rw [c.N, c.scp]; exact blkOk_by hok) (h2 X c0) (h3 X c0) (h4 X c0) (notSet_ok hns)) sw (by rw [c.fn, c.scp]; exact l2)
  · obtain ⟨G', a⟩ := a0.fz is
    exact ev_exp (kk := fun D x H1 => D.nx (σ.set i (some x)) H1) a (h5 H0 G' H σ _ a.at) fun x l G2 H2 gr rx => put_ok (t := fun D _ H2 => D.nx (σ.set i (some x)) H2) a gr rx fun D q => q
def sRet (is : List Nat) (f : EF) : SF := fun env => (f (fzE is env)).bind fun l => l.fz.bind fun d => .ok (.rt d)
theorem cs_ret {e : Expr} {f : EF} {pos : Pos} (is : List Nat) (h : CE S k E cc sc e f) : CS S k E cc sc (.Return (some e) pos) (sRet is f) := by
  obtain ⟨t, p, v⟩ := h
  refine ⟨tRet t, fun X c => ps_ret (p X c.toCtxOk), fun G0 H0 G H σ env a0 => ?_⟩
  obtain ⟨G', a⟩ := a0.fz is
  refine ev_exp (kk := fun D x H1 => D.rt x H1) a (v H0 G' H σ _ a.at) fun x l G2 H2 gr rx => ?_
  cases e1 : l.fz with
  | stuck => exact True.intro
  | ex c => exact absurd e1 fun z => by cases l <;> cases z
  | ok d =>
    obtain ⟨G3, gr3, r3⟩ := rx.fz gr e1
    exact fun D q => q x G3 H2 (a.gr.trans gr3) r3
def sRetN : SF := fun _ => .ok (.rt .none)
theorem cs_retN {pos : Pos} : CS S k E cc sc (.Return none pos) sRetN := ⟨tRetN, fun X c => ps_retN, fun G0 H0 G H σ env a D q => q _ G H a.gr .non⟩
theorem cs_pass {pos : Pos} : CS S k E cc sc (.Pass pos) sNil := ⟨tNext, fun X c => ps_pass, fun G0 H0 G H σ env a D q => q σ G H a⟩
def sCt : SF := fun env => .ok (.ct env)
theorem cs_continue {pos : Pos} : CS S k E cc sc (.Continue pos) sCt := ⟨tCont, fun X c => ps_continue, fun G0 H0 G H σ env a D q => q σ G H a⟩
def sBk : SF := fun env => .ok (.bk env)
theorem cs_break {pos : Pos} : CS S k E cc sc (.Break pos) sBk := ⟨tBreak, fun X c => ps_break, fun G0 H0 G H σ env a D q => q σ G H a⟩
/-! a, b = e, the one tuple taken apart -/
def sUnp (is : List Nat) (g : GF) (f : EF) : SF := fun env => (f (fzE is env)).bind fun l => l.fz.bind fun d => match g d (fzE is env) with
  | .ok env2 => .ok (.nx env2)
  | _ => .stuck
def notTup : Expr → Bool
  | .Tuple _ _ _ => false
  | .List _ _ => false
  | _ => true
def isTupE : Expr → Bool
  | .Tuple _ _ _ => true
  | _ => false
theorem swapsTup {ts : List Expr} {n : Nat} {p : Pos} {e : Expr} {l : Nat} {env : Env} : swapsWithSole [.Tuple ts n p] e l env = pure false := by
  cases e <;> rfl
theorem swappedTup {ts : List Expr} {n : Nat} {p : Pos} {e : Expr} {env : Env} (h : notTup e = true) : swappedStores [.Tuple ts n p] e env = pure none := by
  cases e <;> first | rfl | cases h
theorem cs_unp {ts : List Expr} {n : Nat} {tp : Pos} {e : Expr} {sl : List Nat} {g : GF} {f : EF} {pos : Pos} (is : List Nat) (hw : ∀ X, CtxS S k E cc sc X → swappedStores [.Tuple ts n tp] e X.env = pure none) (hg : CG S k E cc sc (.Tuple ts n tp) sl g) (h : CE S k E cc sc e f) :
    CS S k E cc sc (.Assign [.Tuple ts n tp] e pos) (sUnp is g f) := by
  obtain ⟨t, p, v⟩ := h
  obtain ⟨gt, pg, vg⟩ := hg
  refine ⟨tAsg t gt, fun X c => ps_asg (p X c.toCtxOk) (pg X c.toCtxOk) swapsTup (hw X c) rfl, fun G0 H0 G H σ env a0 => ?_⟩
  obtain ⟨G', a⟩ := a0.fz is
  refine ev_exp (kk := fun D x H1 => gt x σ H1 D.nx) a (v H0 G' H σ _ a.at) fun x l G2 H2 gr rx => ?_
  cases e1 : l.fz with
  | stuck => exact True.intro
  | ex c => exact absurd e1 fun z => by cases l <;> cases z
  | ok d =>
    obtain ⟨G3, gr3, r3⟩ := rx.fz gr e1
    have a3 := a.up gr3
    show EvS S E G0 H0 _ σ H2 (match g d (fzE is env) with
      | .ok env2 => .ok (.nx env2)
      | _ => .stuck)
    cases e2 : g d (fzE is env) with
    | stuck => exact True.intro
    | ex c => exact True.intro
    | ok env2 => exact fun D q => vg H0 G3 H2 σ _ x d env2 a3.at r3 e2 _ fun σ' r' _ => q σ' G3 H2 ⟨a3.gr, a.tb, r'⟩
/-! a, b = e1, e2 with local names -/
def sPar (is : List Nat) (i j : Nat) (f g : EF) : SF := fun env => (f (fzE is env)).bind fun a => (g (fzE is env)).bind fun b => match putL i (fzE is env) a with
  | .ok (.nx env2) => putL j env2 b
  | _ => .stuck
end
end PD
/-! statements, further -/
namespace PD
open PySem PySem.Spec PyProof.Rows L2
section
variable {S : Sys} {k : Nat} {E : XK} {cc : CC} {sc : SC} {G0 H0 : Hp}
/-- the addresses that slots own are known in Hs, but one -/
def Kn (S : Sys) (H0 G H : Hp) (σ : L2.St) (env : List L) (P : Addr → Prop) : Prop := ∀ (j : Nat) sv l as, σ[j]? = some sv → env[j]? = some l → SR S H0 G H sv l as → ∀ q ∈ as, P q
theorem sr_as {H0 H0' G G' H H' : Hp} {sv : Option V} {l : L} {as as' : List Addr} (h : SR S H0 G H sv l as) (h' : SR S H0' G' H' sv l as') : as = as' := by
  cases l with
  | un => exact (show as = [] from h).trans (show as' = [] from h').symm
  | d y => exact h.1.trans h'.1.symm
  | own ys =>
    obtain ⟨q1, w1, rfl, z1, _⟩ := h
    obtain ⟨q2, w2, rfl, z2, _⟩ := h'
    rw [z1] at z2
    cases z2
    rfl
  | fr ys => exact h.elim
  | dc ks ds =>
    obtain ⟨q1, w1, rfl, z1, _⟩ := h
    obtain ⟨q2, w2, rfl, z2, _⟩ := h'
    rw [z1] at z2
    cases z2
    rfl
theorem kn_of {G H G2 H2 : Hp} {σ : L2.St} {env : List L} (e : EnvR S H0 G H σ env) : Kn S H0 G2 H2 σ env fun q => H q ≠ none := fun j sv l as e1 e2 e3 q hq => by
  obtain ⟨sv', as', f1, f2⟩ := e.get e2
  rw [e1] at f1
  cases f1
  rw [sr_as e3 f2] at hq
  obtain ⟨_, _, xs, hx⟩ := f2.known hq
  rw [hx]
  intro z
  cases z
theorem setL {i : Nat} {Hs G H : Hp} {σ : L2.St} {env env' : List L} {x : V} {l : L} {P : Addr → Prop} (e : EnvR S H0 G H σ env) (kn : Kn S H0 G H σ env P) (hp : ∀ q, Hs q = none → ¬ P q) (h0 : ∀ q, Hs q = none → H0 q = none) (r : WR S Hs G H x l) (ep : putL i env l = .ok (.nx env')) :
    EnvR S H0 G H (σ.set i (some x)) env' ∧ Kn S H0 G H (σ.set i (some x)) env' fun q => P q ∨ (x = .ref q ∧ ∃ ys, l = .fr ys) := by
  have knD : ∀ y, Kn S H0 G H (σ.set i (some x)) (env.set i (.d y)) fun q => P q ∨ (x = .ref q ∧ ∃ ys, l = .fr ys) := fun y j sv l as e1 e2 e3 q hq => by
    by_cases hj : i = j
    · subst hj
      by_cases hl : i < env.length
      · rw [List.getElem?_set_self hl] at e2
        cases e2
        obtain ⟨rfl, _⟩ := e3
        cases hq
      · rw [List.getElem?_eq_none (by simpa using hl)] at e2
        cases e2
    · rw [List.getElem?_set_ne hj] at e1 e2
      exact .inl (kn j sv l as e1 e2 e3 q hq)
  cases l with
  | un => cases ep
  | d y =>
    cases ep
    exact ⟨e.setD i r, knD y⟩
  | own xs => cases ep
  | dc ks ds => cases ep
  | fr xs =>
    cases ep
    obtain ⟨p, us, rfl, hs, hg, h2, rr⟩ := r
    refine ⟨e.setN i (h0 p hs) hg h2 rr fun j sv l as e1 e2 e3 hm => hp p hs (kn j sv l as e1 e2 e3 p hm), fun j sv l as e1 e2 e3 q hq => ?_⟩
    by_cases hj : i = j
    · subst hj
      by_cases hl : i < env.length
      · rw [List.getElem?_set_self hl] at e2
        cases e2
        obtain ⟨p2, w2, rfl, z2, _⟩ := e3
        have hσ : i < σ.length := by rw [e.len]; exact hl
        rw [List.getElem?_set_self hσ] at e1
        have : q = p2 := by simpa using hq
        subst this
        cases e1
        exact .inr ⟨Option.some.inj z2, _, rfl⟩
      · rw [List.getElem?_eq_none (by simpa using hl)] at e2
        cases e2
    · rw [List.getElem?_set_ne hj] at e1 e2
      exact .inl (kn j sv l as e1 e2 e3 q hq)
theorem putL_ex {i : Nat} {env : List L} {l : L} {c : Str} : putL i env l ≠ .ex c := fun z => by
  unfold putL at z
  split at z <;> cases z
theorem putL_nx {i : Nat} {env : List L} {l : L} {r : R} (h : putL i env l = .ok r) : ∃ e, r = .nx e := by
  unfold putL at h
  split at h <;> cases h <;> exact ⟨_, rfl⟩
theorem cs_par {x y : Str} {i j : Nat} {a b : Expr} {f g : EF} {px py pt pos : Pos} {kt k2 : Nat} {pt2 : Pos} (is : List Nat) (hi : cc.N[i]? = some x) (hj : cc.N[j]? = some y) (hij : i ≠ j) (hx : sc.sc.names.lookup x = some .local) (hy : sc.sc.names.lookup y = some .local) (hsa : notStar a = true) (hsb : notStar b = true)
    (hw : ∀ X, CtxS S k E cc sc X → swappedStores [.Tuple [.Name x px, .Name y py] kt pt] (.Tuple [a, b] k2 pt2) X.env = pure (some [x, y])) (ha : CE S k E cc sc a f) (hb : CE S k E cc sc b g) :
    CS S k E cc sc (.Assign [.Tuple [.Name x px, .Name y py] kt pt] (.Tuple [a, b] k2 pt2) pos) (sPar is i j f g) := by
  obtain ⟨t, p, v⟩ := ha
  obtain ⟨u, q, w⟩ := hb
  refine ⟨tPar i j (tCons t (tCons u tNil)), fun X c => ps_par c.calm (by rw [c.N]; exact c.nd) (by rw [c.N]; exact hi) (by rw [c.N]; exact hj) hij (by rw [c.scp]; exact hx) (by rw [c.scp]; exact hy) (pa_cons (p X c.toCtxOk) (pa_cons (q X c.toCtxOk) pa_nil (star_cons hsb)) (star_cons hsa)) (hw X c) swapsTup, fun G0 H0 G H σ env a0 => ?_⟩
  obtain ⟨G', a1⟩ := a0.fz is
  refine ev_exp (kk := fun D x H1 => u σ H1 fun y H2 => ∃ v w, [x, y] = [v, w] ∧ D.nx ((σ.set i (some v)).set j (some w)) H2) a1 (v H0 G' H σ _ a1.at) fun x l G2 H2 gr rx => ?_
  refine ev_exp (kk := fun D y H2 => ∃ v w, [x, y] = [v, w] ∧ D.nx ((σ.set i (some v)).set j (some w)) H2) (a1.up gr) (w H0 G2 H2 σ _ (a1.up gr).at) fun y l2 G3 H3 gr3 ry => ?_
  have a3 := (a1.up gr).up gr3
  cases e1 : putL i (fzE is env) l with
  | stuck => exact True.intro
  | ex c => exact absurd e1 putL_ex
  | ok r =>
    obtain ⟨env2, rfl⟩ := putL_nx e1
    obtain ⟨s1, s2⟩ := setL (Hs := H) a3.env (kn_of (G2 := G3) (H2 := H3) a1.env) (fun q hq hn => hn hq) (fun q hq => a1.gr.dom q hq) (rx.up gr3) e1
    show EvS S E G0 H0 _ σ H3 (putL j env2 l2)
    cases e2 : putL j env2 l2 with
    | stuck => exact True.intro
    | ex c => exact absurd e2 putL_ex
    | ok r2 =>
      obtain ⟨env3, rfl⟩ := putL_nx e2
      have kn2 : Kn S H0 G3 H3 (σ.set i (some x)) env2 fun q => H2 q ≠ none := fun j sv l' as e1 e2 e3 q hq => by
        rcases s2 j sv l' as e1 e2 e3 q hq with z | z
        · exact fun h => z (gr.dom q h)
        · obtain ⟨rfl, ys, rfl⟩ := z
          obtain ⟨p, us, e, _, _, hp, _⟩ := rx
          cases e
          rw [hp]
          intro z
          cases z
      obtain ⟨s3, _⟩ := setL (Hs := H2) s1 kn2 (fun q hq hn => hn hq) (fun q hq => (a1.up gr).gr.dom q hq) ry e2
      exact fun D q => ⟨x, y, rfl, q _ G3 H3 ⟨a3.gr, a3.tb, s3⟩⟩
end
end PD
/-! if, for, while, raise, lists that grow -/
namespace PD
open PySem PySem.Spec PyProof.Rows L2
section
variable (S : Sys) (E : XK) (G0 H0 : Hp)
/-- what a run's end is to give -/
def Want (D : Ends) : M R → Prop
  | .stuck => False
  | .ex c => ∀ G2 H2, Gr S G0 H0 G2 H2 → E (.ref (S.ca c)) none H2
  | .ok (.nx env') => ∀ σ' G' H', StA S G0 H0 G' H' σ' env' → D.nx σ' H'
  | .ok (.rt d) => ∀ v G' H', Gr S G0 H0 G' H' → DR S.K G' v d → D.rt v H'
  | .ok (.bk env') => ∀ σ' G' H', StA S G0 H0 G' H' σ' env' → D.bk σ' H'
  | .ok (.ct env') => ∀ σ' G' H', StA S G0 H0 G' H' σ' env' → D.ct σ' H'
end
section
variable {S : Sys} {k : Nat} {E : XK} {cc : CC} {sc : SC} {G0 H0 : Hp}
theorem evS_of {t : TS} {σ : L2.St} {H : Hp} {r : M R} (h : ∀ D, Want S E G0 H0 D r → t D σ H) : EvS S E G0 H0 t σ H r := by
  cases r with
  | stuck => exact True.intro
  | ex c => exact h
  | ok r => cases r <;> exact h
theorem evS_to {t : TS} {σ : L2.St} {H : Hp} {r : M R} (h : EvS S E G0 H0 t σ H r) : ∀ D, Want S E G0 H0 D r → t D σ H := by
  cases r with
  | stuck => exact fun D w => w.elim
  | ex c => exact h
  | ok r => cases r <;> exact h
/-! ### if -/
def sIf (is : List Nat) (t : TF) (f g : SF) : SF := fun env => (t (fzE is env)).bind fun b => if b then f (fzE is env) else g (fzE is env)
theorem cs_if {c : Expr} {a b : List Stmt} {t : TF} {f g : SF} {pos : Pos} (is : List Nat) (hc : CT S k E cc sc c t) (ha : CSs S k E cc sc a f) (hb : CSs S k E cc sc b g) : CS S k E cc sc (.If c a b pos) (sIf is t f g) := by
  obtain ⟨tc, pc, vc⟩ := hc
  obtain ⟨ta, pa, va⟩ := ha
  obtain ⟨tb, pb, vb⟩ := hb
  refine ⟨tIfS tc ta tb, fun X c => ps_if (pc X c.toCtxOk) (pa X c) (pb X c), fun G0 H0 G H σ env a0 => ?_⟩
  obtain ⟨G', a⟩ := a0.fz is
  refine evS_of fun D w => ?_
  have ev := vc H0 G' H σ _ a.at
  have w' : Want S E G0 H0 D ((t (fzE is env)).bind fun b => if b then f (fzE is env) else g (fzE is env)) := w
  cases e : t (fzE is env) with
  | stuck => rw [e] at w'; exact w'.elim
  | ex c =>
    rw [e] at w' ev
    exact ev _ fun G2 H2 x => w' G2 H2 (a.gr.trans x)
  | ok b =>
    rw [e] at w' ev
    refine ev _ fun b' G2 H2 x eb => ?_
    have eb : b' = b := eb
    subst eb
    cases b' with
    | true => exact evS_to (va G0 H0 G2 H2 σ _ (a.up x)) D w'
    | false => exact evS_to (vb G0 H0 G2 H2 σ _ (a.up x)) D w'
/-! ### for -/
def forGo (g : GF) (body : SF) : List D → List L → M R
  | [], env => .ok (.nx env)
  | x :: r, env => match g x env with
    | .ok env2 => (match body env2 with
      | .ok (.nx e) => forGo g body r e
      | .ok (.ct e) => forGo g body r e
      | .ok (.bk e) => .ok (.nx e)
      | r => r)
    | _ => .stuck
def sFor (is : List Nat) (it : IF) (g : GF) (body : SF) : SF := fun env => (it (fzE is env)).bind fun xs => forGo g body xs (fzE is env)
theorem Gr.based {G1 H1 G2 H2 : Hp} (a : Gr S G0 H0 G1 H1) (b : Gr S G1 H0 G2 H2) : Gr S G0 H0 G2 H2 :=
  ⟨b.h, a.g.trans b.g, b.gh, fun p h1 h2 => b.n p h1 (a.n p h1 h2), b.dom, b.t⟩
theorem StA.based {G1 H1 G2 H2 : Hp} {σ : L2.St} {env : List L} (a : Gr S G0 H0 G1 H1) (b : StA S G1 H0 G2 H2 σ env) : StA S G0 H0 G2 H2 σ env := ⟨a.based b.gr, b.tb, b.env⟩
theorem StA.rebase {G1 H1 : Hp} {σ : L2.St} {env : List L} (a : StA S G0 H0 G1 H1 σ env) : StA S G1 H0 G1 H1 σ env := ⟨⟨a.gr.h, Xt.refl _, a.gr.gh, fun _ _ h => h, a.gr.dom, a.gr.t⟩, a.tb, a.env⟩
theorem cs_for {tg iter : Expr} {body : List Stmt} {sl : List Nat} {it : IF} {g : GF} {f : SF} {pos : Pos} (is : List Nat) (hns : notSet iter = true) (hi : CI S k E cc sc tg iter it) (hg : CG S k E cc sc tg sl g) (hb : CSs S k E cc sc body f) :
    CS S k E cc sc (.For tg iter body [] pos) (sFor is it g f) := by
  obtain ⟨wi, pw, vw⟩ := hi
  obtain ⟨gt, pg, vg⟩ := hg
  obtain ⟨tb, pb, vb⟩ := hb
  refine ⟨tFor wi gt tb, fun X c => ps_for c.po c.calm (pw X c.toCtxOk) (pg X c.toCtxOk) (pb X c) (notSet_ok hns), fun G0 H0 G H σ env a0 => ?_⟩
  obtain ⟨G', a⟩ := a0.fz is
  refine evS_of fun D w => ?_
  have ev := vw H0 G' H σ _ a.at
  have w' : Want S E G0 H0 D ((it (fzE is env)).bind fun xs => forGo g f xs (fzE is env)) := w
  cases e : it (fzE is env) with
  | stuck => rw [e] at w'; exact w'.elim
  | ex c =>
    rw [e] at w' ev
    exact ev _ fun G2 H2 x => w' G2 H2 (a.gr.trans x)
  | ok xs =>
    rw [e] at w' ev
    refine ev _ fun J G2 H2 x ⟨Gd, Y, wk, hGd, hY⟩ => ?_
    have a2 := a.up x
    have w2 : Want S E G0 H0 D (forGo g f xs (fzE is env)) := w'
    refine for_it wk (fun i σ' H' => ∃ G' env', StA S G2 H0 G' H' σ' env' ∧ Want S E G0 H0 D (forGo g f (xs.drop i) env')) ⟨G2, _, a2.rebase, w2⟩ ?_ ?_ ?_
    · rintro i σ' H' _ ⟨G', env', b, _⟩
      exact hGd H' (b.gr.g.trans b.gr.gh.xt)
    · rintro i v σ' H' H'' hi ⟨G', env', b, wb⟩ y
      obtain ⟨G3, x3, rv⟩ := hY i xs[i] G' H' v H'' (List.getElem?_eq_getElem hi) b.gr.g b.gr.gh y
      have b3 := b.up x3
      rw [List.drop_eq_getElem_cons hi] at wb
      have wb' : Want S E G0 H0 D (match g xs[i] env' with
        | .ok env2 => (match f env2 with
          | .ok (.nx e) => forGo g f (xs.drop (i + 1)) e
          | .ok (.ct e) => forGo g f (xs.drop (i + 1)) e
          | .ok (.bk e) => .ok (.nx e)
          | r => r)
        | _ => .stuck) := wb
      cases eg : g xs[i] env' with
      | stuck => rw [eg] at wb'; exact wb'.elim
      | ex c => rw [eg] at wb'; exact wb'.elim
      | ok env2 =>
        rw [eg] at wb'
        simp only [] at wb'
        refine vg H0 G3 H'' σ' env' v _ env2 b3.at rv eg _ fun σ2 r2 _ => ?_
        have b4 : StA S G2 H0 G3 H'' σ2 env2 := ⟨b3.gr, b3.tb, r2⟩
        refine evS_to (vb G2 H0 G3 H'' σ2 env2 b4) _ ?_
        cases ef : f env2 with
        | stuck => rw [ef] at wb'; exact wb'
        | ex c =>
          rw [ef] at wb'
          exact fun G5 H5 z => wb' G5 H5 (a2.gr.based z)
        | ok r =>
          rw [ef] at wb'
          cases r with
          | nx e => exact fun σ5 G5 H5 z => ⟨G5, e, z, wb'⟩
          | ct e => exact fun σ5 G5 H5 z => ⟨G5, e, z, wb'⟩
          | bk e => exact fun σ5 G5 H5 z => wb' σ5 G5 H5 (z.based a2.gr)
          | rt d => exact fun v G5 H5 z rd => wb' v G5 H5 (a2.gr.based z) rd
    · rintro σ' H' ⟨G', env', b, wb⟩
      rw [List.drop_length] at wb
      exact wb σ' G' H' (b.based a2.gr)
/-! ### while -/
def whGo (is : List Nat) (t : TF) (body : SF) : Nat → List L → M R
  | 0, _ => .stuck
  | n + 1, env => match t (fzE is env) with
    | .ok true => (match body (fzE is env) with
      | .ok (.nx e) => whGo is t body n e
      | .ok (.ct e) => whGo is t body n e
      | .ok (.bk e) => .ok (.nx e)
      | r => r)
    | .ok false => .ok (.nx (fzE is env))
    | .ex c => .ex c
    | .stuck => .stuck
def sWh (n : Nat) (is : List Nat) (t : TF) (body : SF) : SF := fun env => whGo is t body n (fzE is env)
theorem cs_while {c : Expr} {body : List Stmt} {t : TF} {f : SF} {pos : Pos} (n : Nat) (hc : CT S k E cc sc c t) (hb : CSs S k E cc sc body f) : CS S k E cc sc (.While c body [] pos) (sWh n [] t f) := by
  obtain ⟨tc, pc, vc⟩ := hc
  obtain ⟨tb, pb, vb⟩ := hb
  refine ⟨tWhile tc tb, fun X c => ps_while c.po (pc X c.toCtxOk) (pb X c), fun G0 H0 G H σ env a => ?_⟩
  refine evS_of fun D w => ⟨fun m σ' H' => ∃ G' env', StA S G0 H0 G' H' σ' env' ∧ Want S E G0 H0 D (whGo [] t f m env'), ⟨n, G, env, a, w⟩, fun m σ' H' ⟨G', env', b, wb⟩ => ?_⟩
  cases m with
  | zero => exact wb.elim
  | succ m =>
    have wb' : Want S E G0 H0 D (match t env' with
      | .ok true => (match f env' with
        | .ok (.nx e) => whGo [] t f m e
        | .ok (.ct e) => whGo [] t f m e
        | .ok (.bk e) => .ok (.nx e)
        | r => r)
      | .ok false => .ok (.nx env')
      | .ex c => .ex c
      | .stuck => .stuck) := wb
    have ev := vc H0 G' H' σ' env' b.at
    cases et : t env' with
    | stuck => rw [et] at wb'; exact wb'.elim
    | ex c =>
      rw [et] at wb' ev
      exact ev _ fun G2 H2 x => wb' G2 H2 (b.gr.trans x)
    | ok v =>
      rw [et] at wb' ev
      refine ev _ fun v' G2 H2 x e => ?_
      have e : v' = v := e
      subst e
      have b2 := b.up x
      cases v' with
      | false => exact wb' σ' G2 H2 b2
      | true =>
        show ∃ N : L2.St → Hp → Prop, _ ∧ _
        refine ⟨fun σ5 H5 => ∃ G5 e5, StA S G0 H0 G5 H5 σ5 e5 ∧ Want S E G0 H0 D (whGo [] t f m e5), fun σ5 H5 z => ⟨m, Nat.lt_succ_self m, z⟩, evS_to (vb G0 H0 G2 H2 σ' env' b2) _ ?_⟩
        simp only [] at wb'
        cases ef : f env' with
        | stuck => rw [ef] at wb'; exact wb'
        | ex c =>
          rw [ef] at wb'
          exact wb'
        | ok r =>
          rw [ef] at wb'
          cases r with
          | nx e => exact fun σ5 G5 H5 z => ⟨G5, e, z, wb'⟩
          | ct e => exact fun σ5 G5 H5 z => ⟨G5, e, z, wb'⟩
          | bk e => exact wb'
          | rt d => exact wb'
/-! ### raise -/
structure ExcAt (S : Sys) (x : Str) : Prop where
  mg : S.mg x = some (.ref (S.ca x))
  xc : PySem.W.excIn S.K (S.ca x) He.veBase "ValueError.__new__" = true
  kp : PySem.W.keepIn S.K (.ref (S.ca x)) = true
  sb : PySem.W.subIn S.K (.ref (S.ca x)) (.type "BaseException") = some true
  ty : PySem.W.typeIn S.K (.ref (S.ca x)) = some (.type "type")
def sRaise (c : Str) : SF := fun _ => .ex c
theorem cs_raise {x m : Str} {j : Nat} {p p2 pos pos2 : Pos} (F : ExcAt S x) (hg : glB sc x = true) : CS S k E cc sc (.Raise (some (.Call (.Name x p) [.Constant (.str m) j p2] [] pos)) none pos2) (sRaise x) := by
  refine ⟨fun _ σ H => E (.ref (S.ca x)) none H, fun X c => ?_, fun G0 H0 G H σ env a D q => q G H a.gr⟩
  obtain ⟨g1, g2, _⟩ := glB_ok c.toCtxOk hg
  have c0 := c.toCtxOk
  exact L2N.ps_raise c.calm c.tk (L2N.pmk_own PySem.F.excBase_ValueError (by rw [c0.K]; exact F.xc) (by rw [c0.mg]; exact F.mg) (by rw [c0.K]; exact F.kp) (raises_own (by rw [c0.K]; exact F.sb) (by rw [c0.K]; exact F.ty)) g1 g2)
/-! ### lists that grow and shrink -/
def onOwn (env : List L) (i : Nat) (f : List D → M R) : M R := match env[i]? with
  | some (.own xs) => f xs
  | _ => .stuck
def sApp (is : List Nat) (i : Nat) (f : EF) : SF := fun env => onOwn (fzE is env) i fun xs => (f (fzE is env)).bind fun l => l.fz.bind fun d => if xs.length < cap then .ok (.nx ((fzE is env).set i (.own (xs ++ [d])))) else .stuck
def sExt (is : List Nat) (i : Nat) (f : EF) : SF := fun env => onOwn (fzE is env) i fun xs => (f (fzE is env)).bind fun l => match l with
  | .fr ys => if xs.length + ys.length ≤ cap then .ok (.nx ((fzE is env).set i (.own (xs ++ ys)))) else .stuck
  | .d (.list ys) => if xs.length + ys.length ≤ cap then .ok (.nx ((fzE is env).set i (.own (xs ++ ys)))) else .stuck
  | _ => .stuck
theorem own_at {G H : Hp} {σ : L2.St} {env : List L} (a : At S H0 G H σ env) {i : Nat} {xs : List D} (e : env[i]? = some (.own xs)) : ∃ p vs, σ[i]? = some (some (.ref p)) ∧ H p = some (.lst vs) ∧ DRs S.K G vs xs := by
  obtain ⟨p, vs, h1, _, _, h2, r, _⟩ := a.env.write e
  exact ⟨p, vs, h1, h2, r⟩
/-- the own list at i gets another content -/
theorem StA.write {G H : Hp} {σ : L2.St} {env : List L} (a : StA S G0 H0 G H σ env) {i : Nat} {xs : List D} (e : env[i]? = some (.own xs)) : ∃ p vs, σ[i]? = some (some (.ref p)) ∧ H p = some (.lst vs) ∧ DRs S.K G vs xs ∧
    ∀ vs' xs', DRs S.K G vs' xs' → StA S G0 H0 G (upd H p (.lst vs')) σ (env.set i (.own xs')) := by
  obtain ⟨p, vs, h1, z, g, h2, r, c, _⟩ := a.env.write e
  exact ⟨p, vs, h1, h2, r, fun vs' xs' r' => ⟨a.gr.mut z g h2, a.tb, c vs' xs' r'⟩⟩
theorem ps_meth1 {X : Cx} {x : Str} {i : Nat} {e : Expr} {te : TE} {name : Str} {id : String} {r : V → List V → Hp → VK → Prop} {p1 p2 p3 pos : Pos} (slot : Slot "list" name id) (hty : typeOf (.builtin id) = pure (.type "method_descriptor")) (hm : MtR X id r)
    (hi : X.N[i]? = some x) (hv : Vis X.env.scope x) (hd : (x == ("__debug__" : Str)) = false) (hcd : (x == ("__classdict__" : Str)) = false) (hl : (p2.endLine == p3.line) = true) (hs : notStar e = true) (he : PE X e te) :
    PE X (.Call (.Attribute (.Name x p1) name p2) [e] [] p3) (tBM X.K "list" r (tVar i) (tCons te tNil)) :=
  pe_bm PySem.F.plainAttrs_list slot hty hm (pe_var hi hv hd hcd) (pa_cons he pa_nil (star_cons hs)) rfl (by rw [star_cons hs]; rfl) hl (star_cons hs) rfl
theorem evS_imp {t t' : TS} {σ : L2.St} {H : Hp} {r : M R} (h : EvS S E G0 H0 t σ H r) (x : ∀ D, t D σ H → t' D σ H) : EvS S E G0 H0 t' σ H r := evS_of fun D w => x D (evS_to h D w)
/-- a method of one argument, of an own list -/
theorem ev_own {te : TE} {r : V → List V → Hp → VK → Prop} {G H : Hp} {σ : L2.St} {env : List L} {i : Nat} {rr : M L} {g : List D → L → M R} (a : StA S G0 H0 G H σ env) (h : EvW S E te σ G H rr)
    (hk : ∀ xs p x l G2 H2, env[i]? = some (.own xs) → σ[i]? = some (some (.ref p)) → Gr S G H G2 H2 → WR S H G2 H2 x l → EvS S E G0 H0 (fun D _ H2 => r (.ref p) [x] H2 fun _ H3 => D.nx σ H3) σ H2 (g xs l)) :
    EvS S E G0 H0 (tDrop (tBM S.K "list" r (tVar i) (tCons te tNil))) σ H (onOwn env i fun xs => rr.bind (g xs)) := by
  unfold onOwn
  split
  · rename_i xs e
    obtain ⟨p, vs, h1, h2, r1, _⟩ := a.write e
    refine evS_imp (t := fun D σ H => te σ H fun x H1 => r (.ref p) [x] H1 fun _ H3 => D.nx σ H3) (ev_exp (kk := fun D x H1 => r (.ref p) [x] H1 fun _ H3 => D.nx σ H3) a h fun x l G2 H2 gr rx => hk xs p x l G2 H2 e h1 gr rx) fun D q => ⟨.ref p, h1, .inl ⟨rfl, vs, SqL.of h2⟩, q⟩
  · exact True.intro
theorem cs_append {x : Str} {i : Nat} {e : Expr} {f : EF} {p1 p2 p3 pos : Pos} (is : List Nat) (hi : cc.N[i]? = some x) (hv : Vis sc.sc x) (hd : (x == ("__debug__" : Str)) = false) (hcd : (x == ("__classdict__" : Str)) = false) (hl : (p2.endLine == p3.line) = true) (hs : notStar e = true) (h : CE S k E cc sc e f) :
    CS S k E cc sc (.Expr (.Call (.Attribute (.Name x p1) "append" p2) [e] [] p3) pos) (sApp is i f) := by
  obtain ⟨t, p, v⟩ := h
  refine ⟨tDrop (tBM S.K "list" rAppend (tVar i) (tCons t tNil)), fun X c => ps_expr (by rw [← c.toCtxOk.K]; exact ps_meth1 (pos := pos) PySem.F.slot_list_append PySem.F.type_list_append mt_append (by rw [c.N]; exact hi) (by rw [c.scp]; exact hv) hd hcd hl hs (p X c.toCtxOk)) (notComp_ok rfl), fun G0 H0 G H σ env a0 => ?_⟩
  obtain ⟨G', a⟩ := a0.fz is
  refine ev_own a (v H0 G' H σ _ a.at) fun xs p x l G2 H2 ei eσ gr rx => ?_
  cases e1 : l.fz with
  | stuck => exact True.intro
  | ex c => exact absurd e1 fun z => by cases l <;> cases z
  | ok d =>
    obtain ⟨G3, gr3, r3⟩ := rx.fz gr e1
    have a3 := a.up gr3
    obtain ⟨p', vs, h1, h2, r1, hw⟩ := a3.write ei
    rw [eσ] at h1
    cases h1
    show EvS S E G0 H0 _ σ H2 (if xs.length < cap then .ok (.nx ((fzE is env).set i (.own (xs ++ [d])))) else .stuck)
    split
    · rename_i hc
      exact fun D q => ⟨p, vs, x, rfl, rfl, h2, by rw [r1.length]; exact cap_lt (Nat.le_of_lt hc), q σ G3 _ (hw _ _ (r1.append (.cons r3 .nil)))⟩
    · exact True.intro
theorem cs_extend {x : Str} {i : Nat} {e : Expr} {f : EF} {p1 p2 p3 pos : Pos} (is : List Nat) (hi : cc.N[i]? = some x) (hv : Vis sc.sc x) (hd : (x == ("__debug__" : Str)) = false) (hcd : (x == ("__classdict__" : Str)) = false) (hl : (p2.endLine == p3.line) = true) (hs : notStar e = true) (h : CE S k E cc sc e f) :
    CS S k E cc sc (.Expr (.Call (.Attribute (.Name x p1) "extend" p2) [e] [] p3) pos) (sExt is i f) := by
  obtain ⟨t, p, v⟩ := h
  refine ⟨tDrop (tBM S.K "list" rExtend (tVar i) (tCons t tNil)), fun X c => ps_expr (by rw [← c.toCtxOk.K]; exact ps_meth1 (pos := pos) PySem.F.slot_list_extend PySem.F.type_list_extend mt_extend (by rw [c.N]; exact hi) (by rw [c.scp]; exact hv) hd hcd hl hs (p X c.toCtxOk)) (notComp_ok rfl), fun G0 H0 G H σ env a0 => ?_⟩
  obtain ⟨G', a⟩ := a0.fz is
  refine ev_own a (v H0 G' H σ _ a.at) fun xs p x l G2 H2 ei eσ gr rx => ?_
  have a3 := a.up gr
  obtain ⟨p', vs, h1, h2, r1, hw⟩ := a3.write ei
  rw [eσ] at h1
  cases h1
  split
  · rename_i ys
    split
    · rename_i hc
      obtain ⟨q1, us, rfl, _, _, h5, r5⟩ := rx
      exact fun D q => ⟨p, q1, vs, us, rfl, rfl, h2, h5, by rw [r1.length, r5.length]; exact cap_le hc, q σ G2 _ (hw _ _ (r1.append r5))⟩
    · exact True.intro
  · rename_i ys
    split
    · rename_i hc
      obtain ⟨q1, us, rfl, h5, r5⟩ := DR.toLst rx
      exact fun D q => ⟨p, q1, vs, us, rfl, rfl, h2, gr.gh.xt.lst h5, by rw [r1.length, r5.length]; exact cap_le hc, q σ G2 _ (hw _ _ (r1.append r5))⟩
    · exact True.intro
  · exact True.intro
/-! an expression that takes from an own list: b.pop(), b.pop(k) -/
def CP (S : Sys) (k : Nat) (E : XK) (cc : CC) (sc : SC) (e : Expr) (f : List L → M (D × List L)) : Prop := ∃ t : TE, (∀ X, CtxS S k E cc sc X → PE X e t) ∧ ∀ G0 H0 G H σ env, StA S G0 H0 G H σ env → match f env with
  | .stuck => True
  | .ex c => ∀ Q : VK, (∀ G2 H2, Gr S G0 H0 G2 H2 → E (.ref (S.ca c)) none H2) → t σ H Q
  | .ok r => ∀ Q : VK, (∀ v G' H', StA S G0 H0 G' H' σ r.2 → DR S.K G' v r.1 → Q v H') → t σ H Q
def ownP (env : List L) (i : Nat) (f : List D → M (D × List L)) : M (D × List L) := match env[i]? with
  | some (.own xs) => f xs
  | _ => .stuck
def pPop (i : Nat) : List L → M (D × List L) := fun env => ownP env i fun xs => match xs[xs.length - 1]? with
  | some d => .ok (d, env.set i (.own xs.dropLast))
  | none => .stuck
def pPopAt (i : Nat) (f : EF) : List L → M (D × List L) := fun env => ownP env i fun xs => (f env).bind fun l => match l with
  | .d (.int k) => if -(2 ^ 63) ≤ k ∧ k < 2 ^ 63 then (match seqIndex? k xs.length with
    | some j => (match xs[j]? with
      | some d => .ok (d, env.set i (.own (xs.eraseIdx j)))
      | none => .stuck)
    | none => .stuck) else .stuck
  | _ => .stuck
theorem cp_pop {x : Str} {i : Nat} {p1 p2 p3 : Pos} (hi : cc.N[i]? = some x) (hv : Vis sc.sc x) (hd : (x == ("__debug__" : Str)) = false) (hcd : (x == ("__classdict__" : Str)) = false) (hl : (p2.endLine == p3.line) = true) :
    CP S k E cc sc (.Call (.Attribute (.Name x p1) "pop" p2) [] [] p3) (pPop i) := by
  refine ⟨tBM0 S.K "list" rPop (tVar i), fun X c => by rw [← c.toCtxOk.K]; exact pe_bm0 PySem.F.plainAttrs_list PySem.F.slot_list_pop PySem.F.type_list_pop mt_pop (pe_var (by rw [c.N]; exact hi) (by rw [c.scp]; exact hv) hd hcd) rfl hl, fun G0 H0 G H σ env a => ?_⟩
  unfold pPop ownP
  split
  · trivial
  · rename_i e
    split at e <;> first | (cases e; done) | skip
    dsimp only at e
    split at e <;> cases e
  · rename_i r e
    split at e
    · rename_i xs ei
      dsimp only at e
      obtain ⟨p, vs, h1, h2, r1, hw⟩ := a.write ei
      split at e
      · rename_i d ed
        cases e
        obtain ⟨v, hv, rv⟩ := r1.get ed
        exact fun Q q => ⟨.ref p, h1, .inl ⟨rfl, vs, SqL.of h2⟩, p, vs, v, rfl, rfl, h2, by rw [r1.length]; exact hv, q v G _ (hw _ _ r1.dropLast) rv⟩
      · cases e
    · cases e
theorem cp_popAt {x : Str} {i : Nat} {e : Expr} {f : EF} {p1 p2 p3 : Pos} (hi : cc.N[i]? = some x) (hv : Vis sc.sc x) (hd : (x == ("__debug__" : Str)) = false) (hcd : (x == ("__classdict__" : Str)) = false) (hl : (p2.endLine == p3.line) = true) (hs : notStar e = true) (h : CE S k E cc sc e f) :
    CP S k E cc sc (.Call (.Attribute (.Name x p1) "pop" p2) [e] [] p3) (pPopAt i f) := by
  obtain ⟨t, p, v⟩ := h
  refine ⟨tBM S.K "list" rPopAt (tVar i) (tCons t tNil), fun X c => by rw [← c.toCtxOk.K]; exact ps_meth1 (pos := p3) PySem.F.slot_list_pop PySem.F.type_list_pop mt_popAt (by rw [c.N]; exact hi) (by rw [c.scp]; exact hv) hd hcd hl hs (p X c.toCtxOk), fun G0 H0 G H σ env a => ?_⟩
  have ev := v H0 G H σ env a.at
  unfold pPopAt ownP
  cases ei : env[i]? with
  | none => trivial
  | some l0 =>
    cases l0 <;> first | trivial | skip
    rename_i xs
    obtain ⟨p, vs, h1, h2, r1, hw⟩ := a.write ei
    show match ((f env).bind fun l => match l with
      | .d (.int k) => if -(2 ^ 63) ≤ k ∧ k < 2 ^ 63 then (match seqIndex? k xs.length with
        | some j => (match xs[j]? with
          | some d => .ok (d, env.set i (.own (xs.eraseIdx j)))
          | none => .stuck)
        | none => .stuck) else .stuck
      | _ => .stuck : M (D × List L)) with
      | .stuck => True
      | .ex c => ∀ Q : VK, (∀ G2 H2, Gr S G0 H0 G2 H2 → E (.ref (S.ca c)) none H2) → tBM S.K "list" rPopAt (tVar i) (tCons t tNil) σ H Q
      | .ok r => ∀ Q : VK, (∀ v G' H', StA S G0 H0 G' H' σ r.2 → DR S.K G' v r.1 → Q v H') → tBM S.K "list" rPopAt (tVar i) (tCons t tNil) σ H Q
    cases ef : f env with
    | stuck => trivial
    | ex c =>
      rw [ef] at ev
      exact fun Q q => ⟨.ref p, h1, .inl ⟨rfl, vs, SqL.of h2⟩, ev _ fun G2 H2 x => q G2 H2 (a.gr.trans x)⟩
    | ok l =>
      rw [ef] at ev
      cases l <;> first | trivial | skip
      rename_i d
      cases d <;> first | trivial | skip
      rename_i kk
      show match (if -(2 ^ 63) ≤ kk ∧ kk < 2 ^ 63 then (match seqIndex? kk xs.length with
        | some j => (match xs[j]? with
          | some d => .ok (d, env.set i (.own (xs.eraseIdx j)))
          | none => .stuck)
        | none => .stuck) else .stuck : M (D × List L)) with
        | .stuck => True
        | .ex c => ∀ Q : VK, (∀ G2 H2, Gr S G0 H0 G2 H2 → E (.ref (S.ca c)) none H2) → tBM S.K "list" rPopAt (tVar i) (tCons t tNil) σ H Q
        | .ok r => ∀ Q : VK, (∀ v G' H', StA S G0 H0 G' H' σ r.2 → DR S.K G' v r.1 → Q v H') → tBM S.K "list" rPopAt (tVar i) (tCons t tNil) σ H Q
      by_cases hk : -(2 ^ 63) ≤ kk ∧ kk < 2 ^ 63
      · rw [if_pos hk]
        cases es : seqIndex? kk xs.length with
        | none => trivial
        | some j =>
          cases ed : xs[j]? with
          | none => simp only [ed]
          | some d =>
            simp only [ed]
            refine fun Q q => ⟨.ref p, h1, .inl ⟨rfl, vs, SqL.of h2⟩, ev _ fun y G2 H2 x ry => ?_⟩
            have ey := DR.toInt ry
            subst ey
            obtain ⟨p', vs', h1', h2', r1', hw'⟩ := (a.up x).write ei
            rw [h1] at h1'
            cases h1'
            obtain ⟨v, hv, rv⟩ := r1'.get ed
            exact ⟨p, vs', kk, j, v, rfl, rfl, h2', hk.1, hk.2, by rw [r1'.length]; exact es, hv, q v G2 _ (hw' _ _ (r1'.eraseIdx j)) rv⟩
      · rw [if_neg hk]
        trivial
def sPopX (f : List L → M (D × List L)) : SF := fun env => (f env).bind fun r => .ok (.nx r.2)
def sPopA (i : Nat) (f : List L → M (D × List L)) : SF := fun env => (f env).bind fun r => .ok (.nx (r.2.set i (.d r.1)))
def sAppP (i : Nat) (f : List L → M (D × List L)) : SF := fun env => match env[i]? with
  | some (.own _) => (f env).bind fun r => (match r.2[i]? with
    | some (.own xs) => if xs.length < cap then .ok (.nx (r.2.set i (.own (xs ++ [r.1])))) else .stuck
    | _ => .stuck)
  | _ => .stuck
theorem cs_popX {e : Expr} {f : List L → M (D × List L)} {pos : Pos} (hc : notComp e = true) (h : CP S k E cc sc e f) : CS S k E cc sc (.Expr e pos) (sPopX f) := by
  obtain ⟨t, p, v⟩ := h
  refine ⟨tDrop t, fun X c => ps_expr (p X c) (notComp_ok hc), fun G0 H0 G H σ env a => ?_⟩
  have ev := v G0 H0 G H σ env a
  unfold sPopX
  cases ef : f env with
  | stuck => exact True.intro
  | ex c =>
    rw [ef] at ev
    exact fun D q => ev _ q
  | ok r =>
    rw [ef] at ev
    exact fun D q => ev _ fun v G' H' b _ => q σ G' H' b
theorem cs_popA {x : Str} {i : Nat} {e : Expr} {f : List L → M (D × List L)} {pos pos' : Pos} (hi : cc.N[i]? = some x) (hl : locB sc x = true) (hc : notComp e = true) (h : CP S k E cc sc e f) : CS S k E cc sc (.Assign [.Name x pos'] e pos) (sPopA i f) := by
  obtain ⟨t, p, v⟩ := h
  obtain ⟨h1, h2⟩ := locB_ok hl
  refine ⟨tAsg t (gName i), fun X c => ps_set (by rw [c.N]; exact c.nd) (by rw [c.N]; exact hi) (by rw [c.scp]; exact h1) (p X c) (notComp_ok hc) (by rw [c.fn, c.scp]; exact h2), fun G0 H0 G H σ env a => ?_⟩
  have ev := v G0 H0 G H σ env a
  unfold sPopA
  cases ef : f env with
  | stuck => exact True.intro
  | ex c =>
    rw [ef] at ev
    exact fun D q => ev _ q
  | ok r =>
    rw [ef] at ev
    exact fun D q => ev _ fun v G' H' b rv => q _ G' H' ⟨b.gr, b.tb, b.env.setD i rv⟩
theorem cs_appP {x : Str} {i : Nat} {e : Expr} {f : List L → M (D × List L)} {p1 p2 p3 pos : Pos} (hi : cc.N[i]? = some x) (hv : Vis sc.sc x) (hd : (x == ("__debug__" : Str)) = false) (hcd : (x == ("__classdict__" : Str)) = false) (hl : (p2.endLine == p3.line) = true) (hs : notStar e = true) (h : CP S k E cc sc e f) :
    CS S k E cc sc (.Expr (.Call (.Attribute (.Name x p1) "append" p2) [e] [] p3) pos) (sAppP i f) := by
  obtain ⟨t, p, v⟩ := h
  refine ⟨tDrop (tBM S.K "list" rAppend (tVar i) (tCons t tNil)), fun X c => ps_expr (by rw [← c.toCtxOk.K]; exact ps_meth1 (pos := pos) PySem.F.slot_list_append PySem.F.type_list_append mt_append (by rw [c.N]; exact hi) (by rw [c.scp]; exact hv) hd hcd hl hs (p X c)) (notComp_ok rfl), fun G0 H0 G H σ env a => ?_⟩
  have ev := v G0 H0 G H σ env a
  unfold sAppP
  cases ei : env[i]? with
  | none => exact True.intro
  | some l0 =>
    cases l0 <;> first | exact True.intro | skip
    rename_i xs0
    obtain ⟨p, vs, h1, h2, r1, _⟩ := a.write ei
    show EvS S E G0 H0 _ σ H ((f env).bind fun r => (match r.2[i]? with
      | some (.own xs) => if xs.length < cap then .ok (.nx (r.2.set i (.own (xs ++ [r.1])))) else .stuck
      | _ => .stuck))
    cases ef : f env with
    | stuck => exact True.intro
    | ex c =>
      rw [ef] at ev
      exact fun D q => ⟨.ref p, h1, .inl ⟨rfl, vs, SqL.of h2⟩, ev _ q⟩
    | ok r =>
      rw [ef] at ev
      show EvS S E G0 H0 _ σ H (match r.2[i]? with
        | some (.own xs) => if xs.length < cap then .ok (.nx (r.2.set i (.own (xs ++ [r.1])))) else .stuck
        | _ => .stuck)
      cases ei2 : r.2[i]? with
      | none => exact True.intro
      | some l2 =>
        cases l2 <;> first | exact True.intro | skip
        rename_i xs
        show EvS S E G0 H0 _ σ H (if xs.length < cap then .ok (.nx (r.2.set i (.own (xs ++ [r.1])))) else .stuck)
        split
        · rename_i hc
          refine fun D q => ⟨.ref p, h1, .inl ⟨rfl, vs, SqL.of h2⟩, ev _ fun y G' H' b ry => ?_⟩
          obtain ⟨p', vs', h1', h2', r1', hw'⟩ := b.write ei2
          rw [h1] at h1'
          cases h1'
          exact ⟨p, vs', y, rfl, rfl, h2', by rw [r1'.length]; exact cap_lt (Nat.le_of_lt hc), q σ G' _ (hw' _ _ (r1'.append (.cons ry .nil)))⟩
        · exact True.intro
/-! x[i] = e, x an own list or dict -/
def stoL (env : List L) (i : Nat) (d : D) (xs : List D) : L → M R
  | .d (.int k) => (match ixN xs.length k with
    | some j => .ok (.nx (env.set i (.own (xs.set j d))))
    | none => .stuck)
  | _ => .stuck
def stoK (env : List L) (i : Nat) (d : D) (ks : List Key) (ds : List D) (m : L) : M R := match m.key with
  | some k => if ks.length < cap then .ok (.nx (env.set i (.dc (putKs ks k) (putVs ks ds k d)))) else .stuck
  | none => .stuck
def stoG (ix : EF) (env : List L) (i : Nat) (d : D) : Option L → M R
  | some (.own xs) => (ix env).bind (stoL env i d xs)
  | some (.dc ks ds) => (ix env).bind (stoK env i d ks ds)
  | _ => .stuck
def sSto (is : List Nat) (i : Nat) (ix f : EF) : SF := fun env => (f (fzE is env)).bind fun l => l.fz.bind fun d => stoG ix (fzE is env) i d (fzE is env)[i]?
def notSlice : Expr → Bool
  | .Slice _ _ _ _ => false
  | _ => true
theorem sub_assign {o i : Expr} {p : Pos} {env : Env} (h : notSlice i = true) : ∀ v, assign (.Subscript o i p) env v = (do
      let ov ← holding [v] (eval o env)
      let iv ← holding [v, ov] (eval i env)
      standAt p
      holding [v, ov, iv] (setItem ov iv v)
      release [v, ov, iv] []) := by
  intro v
  cases i <;> first | rfl | cases h
theorem swapsSub {o i : Expr} {p : Pos} {e : Expr} {l : Nat} {env : Env} : swapsWithSole [.Subscript o i p] e l env = pure false := by cases e <;> rfl
theorem swappedSub {o i : Expr} {p : Pos} {e : Expr} {env : Env} : swappedStores [.Subscript o i p] e env = pure none := by cases e <;> rfl
theorem putK_zip {ks : List Key} {vs : List V} {k : Key} {v : V} (hl : ks.length = vs.length) : putK (ks.zip vs) k v = (putKs ks k).zip (putVs ks vs k v) ∧ (putKs ks k).length = (putVs ks vs k v).length := by
  have e : ((ks.zip vs).any fun kv => decide (kv.1 = k)) = hasK ks k := by
    unfold hasK
    have e1 : (ks.zip vs).map (fun kv => kv.1) = ks := List.map_fst_zip (by omega)
    conv => rhs; rw [← e1]
    rw [List.any_map]
    rfl
  unfold putK putKs putVs
  rw [e]
  cases h : hasK ks k with
  | true =>
    simp only [if_true]
    refine ⟨?_, by rw [List.length_map, List.length_zip]; omega⟩
    clear e h
    induction ks generalizing vs with
    | nil => rfl
    | cons k0 ks ih =>
      cases vs with
      | nil => cases hl
      | cons v0 vs =>
        rw [List.zip_cons_cons, List.map_cons, List.map_cons, List.zip_cons_cons, ih (by simpa using hl)]
        by_cases z : k0 = k
        · simp only [if_pos z]
        · simp only [if_neg z]
  | false =>
    simp only [Bool.false_eq_true, if_false]
    refine ⟨?_, by rw [List.length_append, List.length_append, hl]; rfl⟩
    rw [List.zip_append hl]
    rfl
theorem putVs_rel {G : Hp} {k : Key} {v : V} {d : D} (rv : DR S.K G v d) {ks : List Key} {vs : List V} {ds : List D} (r : DRs S.K G vs ds) (hl : ks.length = vs.length) : DRs S.K G (putVs ks vs k v) (putVs ks ds k d) := by
  unfold putVs
  cases h : hasK ks k with
  | true =>
    simp only [if_true]
    clear h
    induction ks generalizing vs ds with
    | nil => exact .nil
    | cons k0 ks ih =>
      cases r with
      | nil => cases hl
      | cons a r =>
        rw [List.zip_cons_cons, List.zip_cons_cons, List.map_cons, List.map_cons]
        refine .cons ?_ (ih r (by simpa using hl))
        by_cases z : k0 = k
        · simp only [if_pos z]; exact rv
        · simp only [if_neg z]; exact a
  | false =>
    simp only [Bool.false_eq_true, if_false]
    exact r.append (.cons rv .nil)
def rSet2 : TSet := fun o i v H Q => rSetL o i v H Q ∨ rSetD o i v H Q
theorem set_2 {X : Cx} (hu : X.A.units + 1 < cLine) : PSet X rSet2 := by
  intro pins s σ H o i v ov iv u Q I ro ri rv h
  rcases h with h | h
  · exact set_list pins s σ H o i v ov iv u Q I ro ri rv h
  · exact set_dict hu pins s σ H o i v ov iv u Q I ro ri rv h
theorem cs_store {x : Str} {i : Nat} {e ie : Expr} {f ix : EF} {p1 p2 pos : Pos} (is : List Nat) (hi : cc.N[i]? = some x) (hv : Vis sc.sc x) (hd : (x == ("__debug__" : Str)) = false) (hcd : (x == ("__classdict__" : Str)) = false) (hsl : notSlice ie = true) (h : CE S k E cc sc e f) (hix : CE S k E cc sc ie ix) :
    CS S k E cc sc (.Assign [.Subscript (.Name x p1) ie p2] e pos) (sSto is i ix f) := by
  obtain ⟨t, p, v⟩ := h
  obtain ⟨u, q, w⟩ := hix
  refine ⟨tAsg t (gSub (tVar i) u rSet2), fun X c => ps_asg (p X c.toCtxOk) (pg_sub (pe_var (by rw [c.N]; exact hi) (by rw [c.scp]; exact hv) hd hcd) (q X c.toCtxOk) (set_2 (by have := c.room.un; omega)) (sub_assign hsl)) swapsSub swappedSub rfl, fun G0 H0 G H σ env a0 => ?_⟩
  obtain ⟨G', a⟩ := a0.fz is
  refine ev_exp (kk := fun D x H1 => ∃ vo, σ[i]? = some (some vo) ∧ u σ H1 fun iv H2 => rSet2 vo iv x H2 fun H3 => D.nx σ H3) a (v H0 G' H σ _ a.at) fun x l G2 H2 gr rx => ?_
  cases e1 : l.fz with
  | stuck => exact True.intro
  | ex c => exact absurd e1 fun z => by cases l <;> cases z
  | ok d =>
    obtain ⟨G3, gr3, r3⟩ := rx.fz gr e1
    have a3 := a.up gr3
    show EvS S E G0 H0 _ σ H2 (stoG ix (fzE is env) i d (fzE is env)[i]?)
    cases ei : (fzE is env)[i]? with
    | none => exact True.intro
    | some l0 =>
      cases l0 with
      | un => exact True.intro
      | d y => exact True.intro
      | fr xs => exact True.intro
      | own xs =>
        obtain ⟨p, vs, h1, h2, r1, _⟩ := a3.write ei
        refine evS_imp (t := fun D σ H => u σ H fun iv H2 => rSet2 (.ref p) iv x H2 fun H3 => D.nx σ H3) (ev_exp (kk := fun D iv H2 => rSet2 (.ref p) iv x H2 fun H3 => D.nx σ H3) a3 (w H0 G3 H2 σ _ a3.at) fun y l2 G4 H4 gr4 ry => ?_) fun D q => ⟨_, h1, q⟩
        have a4 := a3.up gr4
        unfold stoL
        split
        · rename_i kk
          have ey := DR.toInt ry
          subst ey
          split
          · rename_i j ej
            obtain ⟨p', vs', h1', h2', r1', hw'⟩ := a4.write ei
            rw [h1] at h1'
            cases h1'
            exact fun D q => .inl ⟨p, vs', kk, j, rfl, rfl, h2', by rw [r1'.length]; exact ej, q σ G4 _ (hw' _ _ (r1'.set (r3.up gr4.g) j))⟩
          · exact True.intro
        · exact True.intro
      | dc ks ds =>
        obtain ⟨p, vs, h1, _⟩ := a3.env.writeK ei
        refine evS_imp (t := fun D σ H => u σ H fun iv H2 => rSet2 (.ref p) iv x H2 fun H3 => D.nx σ H3) (ev_exp (kk := fun D iv H2 => rSet2 (.ref p) iv x H2 fun H3 => D.nx σ H3) a3 (w H0 G3 H2 σ _ a3.at) fun y l2 G4 H4 gr4 ry => ?_) fun D q => ⟨_, h1, q⟩
        have a4 := a3.up gr4
        unfold stoK
        split
        · rename_i kk ek
          split
          · rename_i hc
            obtain ⟨p', vs', h1', z', g', h2', hl', r1', hw', _⟩ := a4.env.writeK ei
            rw [h1] at h1'
            cases h1'
            obtain ⟨e5, e6⟩ := putK_zip (k := kk) (v := x) hl'
            refine fun D q => .inr ⟨p, upd H4 p (.dK (putK (ks.zip vs') kk x)), rfl, ?_, q σ G4 _ ⟨a4.gr.mutK z' g' h2', a4.tb, ?_⟩⟩
            · rw [key_rel ry ek]
              exact DPut.k h2' (by rw [List.length_zip]; exact Nat.lt_of_le_of_lt (Nat.min_le_left _ _) (cap_lt (Nat.le_of_lt hc)))
            · rw [e5]
              exact hw' _ _ _ e6 (putVs_rel (r3.up gr4.g) r1' hl')
          · exact True.intro
        · exact True.intro
/-! x = {} -/
def sDic (i : Nat) : SF := fun env => .ok (.nx (env.set i (.dc [] [])))
theorem cs_dict {x : Str} {i : Nat} {p pos pos' : Pos} (hi : cc.N[i]? = some x) (hl : locB sc x = true) : CS S k E cc sc (.Assign [.Name x pos'] (.Dict [] [] p) pos) (sDic i) := by
  obtain ⟨h1, h2⟩ := locB_ok hl
  refine ⟨tAsg tDNewK (gName i), fun X c => ps_set (by rw [c.N]; exact c.nd) (by rw [c.N]; exact hi) (by rw [c.scp]; exact h1) pe_dnewK (notComp_ok rfl) (by rw [c.fn, c.scp]; exact h2), fun G0 H0 G H σ env a => ?_⟩
  refine fun D q p hp => ?_
  have gr : Gr S G H G (upd H p (.dK [])) := Gr.new a.gr.gh hp
  have a2 := a.up gr
  refine q _ G _ ⟨a2.gr, a.tb, a2.env.setK (ks := []) (vs := []) (ds := []) i (a.gr.dom p hp) (a.gr.gh.none hp) upd_same rfl .nil fun j sv l as e1 e2 e3 hm => ?_⟩
  have kn := kn_of (G2 := G) (H2 := upd H p (.dK [])) a.env j sv l as e1 e2 e3 p hm
  exact kn hp
end
end PD
/-! sum of a tuple, sorted of data -/
namespace PD
open PySem PySem.Spec PyProof.Rows L2
section
variable {X : Cx}
def rSumA (K : Frg) : List V → Hp → VK → Prop := fun vs H Q => ∃ (a : Addr) (ns : List Int), vs = [V.ref a] ∧ (SqL K H a (ns.map V.int) ∨ SqT K H a (ns.map V.int)) ∧ Q (.int ns.sum) H
theorem cr_sumA (hc : X.calm = true) : CallR X (.builtin "sum") (rSumA X.K) := by
  intro pins s σ H vs us Q I r h
  obtain ⟨a, ns, rfl, hs | hs, q⟩ := h
  · exact cr_sum hc pins s σ H _ us Q I r ⟨a, ns, rfl, hs, q⟩
  · obtain ⟨its, rv, hl, _⟩ := I.tuple hs
    rw [Vals.ref1 r]
    have hi := rv.ints
    obtain ⟨xs, e⟩ := hi.allInts.items
    have hn : PySem.numsOf (PySem.intItems xs).toList = ns := by rw [← e]; exact hi.numsOf
    rw [PySem.nums_intItems] at hn
    have hl' : s.heap.IsTuple a its.toArray := hl
    rw [e] at hl'
    refine PySem.W.ktm_sumG (I.ok.hd hc) hl' fun h' tk t' hk => ?_
    have e2 : PySem.preSum (PySem.numAt xs) xs.size = ns.sum := by rw [PySem.preSum_eq, List.take_of_length_le (by simp), hn]
    rw [e2]
    exact ⟨.int _, H, I.kept hk, ⟨_, rfl⟩, q⟩
def rSortD (K : Frg) : List V → Hp → VK → Prop := fun vs H Q => ∃ (a : Addr) (l : List (V × D)), vs = [V.ref a] ∧ SqL K H a (l.map (·.1)) ∧ (∀ p ∈ l, Dp K H p.1 p.2) ∧ PySem.W.AllAlike (l.map (·.2)) ∧ PySem.W.Sortable (l.map (·.2)) ∧ (∀ p ∈ l, p.2.depth ≤ 64) ∧
  ∀ p, H p = none → Q (.ref p) (upd H p (.lst ((l.mergeSort (PySem.W.dataLe false (·.2))).map (·.1))))
theorem vals_each {its : List Value} : ∀ {l : List (V × D)}, Vals (l.map (·.1)) its → PySem.W.EachIs (fun u (b : V × D) => RelV b.1 u) its l
  | [], h => by cases h; exact .nil
  | p :: l, h => by
    cases h with
    | cons h1 h2 => exact .cons h1 (vals_each h2)
theorem each_vals {out : List Value} {l : List (V × D)} (h : PySem.W.EachIs (fun u (b : V × D) => RelV b.1 u) out l) : Vals (l.map (·.1)) out := by
  induction h with
  | nil => exact .nil
  | cons h1 _ ih => exact .cons h1 ih
theorem each_reads {K : Frg} {pins : List (Addr × Obj)} {σ : L2.St} {H : Hp} {s : Shared} {its : List Value} (I : Inv X pins σ H s) : ∀ {l : List (V × D)}, (∀ p ∈ l, Dp X.K H p.1 p.2) → PySem.W.EachIs (fun u (b : V × D) => RelV b.1 u) its l → PySem.W.EachIs (fun u (b : V × D) => ∃ as, Reads s.heap u b.2 as) its l := fun {l} hd h => by
  induction h with
  | nil => exact .nil
  | cons h1 _ ih => exact .cons (Dp.reads I _ _ _ (hd _ (List.mem_cons_self ..)) h1) (ih fun p hp => hd p (List.mem_cons_of_mem _ hp))
theorem cr_sortD (hu : X.A.units + 70 < cLine) : CallR X (.builtin "sorted") (rSortD X.K) := by
  intro pins s σ H vs us Q I r h
  obtain ⟨a, l, rfl, hs, hd, hal, hk, hdp, q⟩ := h
  obtain ⟨its, rv, hl, hz⟩ := I.list hs
  rw [Vals.ref1 r]
  have he := vals_each rv
  refine PySem.W.sorted_data (R := fun u (b : V × D) => RelV b.1 u) (enc := (·.2)) hl.isList he (each_reads (K := X.K) I hd he) hal hk (by rw [List.length_map] at hz; exact hz) (fun b hb => by have := hdp b hb; omega) fun out ho heo => ?_
  obtain ⟨ep, he'⟩ := PyProof.Rows.sortedAll_at s.heap its out.toArray
  have hv := each_vals heo
  have hlen : ((l.mergeSort (PySem.W.dataLe false (·.2))).map (·.1)).length ≤ sizeLine := by
    rw [List.length_map, List.length_mergeSort]
    rw [List.length_map] at hz
    exact hz
  exact ⟨.ref _, upd H (s.heap.objs.size + 1) (.lst ((l.mergeSort (PySem.W.dataLe false (·.2))).map (·.1))), I.laid (t' := s.toks) (fun _ _ => PyProof.Rows.sortedAll_old) (Nat.le_succ _) ⟨hlen, out, ep, hv, he'⟩, rfl, q _ (I.hok.fresh (Nat.le_succ _))⟩
end
/-! ### the readings -/
def bSum2 : List L → M L
  | [a] => match a.rd with
    | .ok (.list xs) => (match intsOf xs with
      | some ns => okI ns.sum
      | none => .stuck)
    | .ok (.tuple xs) => (match intsOf xs with
      | some ns => okI ns.sum
      | none => .stuck)
    | _ => .stuck
  | _ => .stuck
def alikeB (ds : List D) : Bool := ds.all fun d => ds.all fun e => PySem.W.alike d e
def headB : D → Bool
  | .tuple (_ :: _) => true
  | _ => false
def plainB : D → Bool
  | .none => false
  | .tuple _ => false
  | _ => true
def sortB (ds : List D) : Bool := alikeB ds && ((ds.all headB || ds.all plainB) && ds.all fun d => SeqAt.shaped d)
def sortD (ds : List D) : List D := ds.mergeSort (PySem.W.dataLe false id)
def noScr : D → Bool
  | .dict _ => false
  | _ => true
def bSorted2 : List L → M L
  | [a] => match rdInts a with
    | some ns => .ok (.fr ((sortI ns).map .int))
    | none => (match a.rd with
      | .ok (.list ds) => if sortB ds = true then .ok (.fr (sortD ds)) else .stuck
      | _ => .stuck)
  | _ => .stuck
theorem alikeB_ok {ds : List D} (h : alikeB ds = true) : PySem.W.AllAlike ds := fun d hd d' hd' => by
  have h1 := List.all_eq_true.mp h d hd
  exact List.all_eq_true.mp h1 d' hd'
theorem sortB_ok {ds : List D} (h : sortB ds = true) : PySem.W.AllAlike ds ∧ PySem.W.Sortable ds ∧ ∀ d ∈ ds, SeqAt.shaped d = true := by
  unfold sortB at h
  rw [Bool.and_eq_true, Bool.and_eq_true, Bool.or_eq_true] at h
  refine ⟨alikeB_ok h.1, ?_, List.all_eq_true.mp h.2.2⟩
  rcases h.2.1 with h1 | h1
  · refine .inl fun d hd => ?_
    have h2 := List.all_eq_true.mp h1 d hd
    unfold headB at h2
    split at h2
    · exact ⟨_, _, rfl⟩
    · cases h2
  · refine .inr fun d hd => ?_
    have h2 := List.all_eq_true.mp h1 d hd
    unfold plainB at h2
    split at h2
    · cases h2
    · cases h2
    · rename_i n1 n2
      exact ⟨n1, n2⟩
theorem drs_zip {K : Frg} {G : Hp} : ∀ {vs : List V} {ds : List D}, DRs K G vs ds → ∃ l : List (V × D), vs = l.map (·.1) ∧ ds = l.map (·.2) ∧ ∀ p ∈ l, DR K G p.1 p.2
  | _, _, .nil => ⟨[], rfl, rfl, fun _ h => absurd h (by simp)⟩
  | _, _, .cons (v := v) (d := d) a r => by
    obtain ⟨l, h1, h2, h3⟩ := drs_zip r
    refine ⟨(v, d) :: l, by rw [h1]; rfl, by rw [h2]; rfl, fun p hp => ?_⟩
    rcases List.mem_cons.mp hp with e | e
    · rw [e]; exact a
    · exact h3 p e
theorem zip_drs {K : Frg} {G : Hp} : ∀ {l : List (V × D)}, (∀ p ∈ l, DR K G p.1 p.2) → DRs K G (l.map (·.1)) (l.map (·.2))
  | [], _ => .nil
  | p :: l, h => .cons (h p (List.mem_cons_self ..)) (zip_drs fun q hq => h q (List.mem_cons_of_mem _ hq))
section
variable {S : Sys} {E : XK}
theorem cs_sum2 : CallS S E (rSumA S.K) bSum2 := fun HA G H vs ls sb r => by
  unfold bSum2
  split
  · rename_i a
    obtain ⟨x, rfl, r1⟩ := wrs1 r
    split
    · rename_i xs e
      split
      · rename_i ns e1
        have r2 := r1.rd sb e
        obtain ⟨p, us, rfl, h5, r5⟩ := DR.toLst r2
        rw [intsOf_eq e1] at r5
        rw [r5.ints] at h5
        exact okI_now sb fun Q q => ⟨p, ns, rfl, .inl (SqL.of h5), q⟩
      · exact EvG.stk
    · rename_i xs e
      split
      · rename_i ns e1
        have r2 := r1.rd sb e
        obtain ⟨p, us, rfl, h5, r5⟩ := DR.toTup r2
        rw [intsOf_eq e1] at r5
        rw [r5.ints] at h5
        exact okI_now sb fun Q q => ⟨p, ns, rfl, .inr h5, q⟩
      · exact EvG.stk
    · exact EvG.stk
  · exact EvG.stk
theorem wr_list {HA G H : Hp} {v : V} {l : L} {ds : List D} (h : WR S HA G H v l) (sb : Sb G H) (e : l.rd = .ok (.list ds)) : ∃ p us, v = .ref p ∧ H p = some (.lst us) ∧ DRs S.K G us ds := by
  cases l with
  | un => cases e
  | d y =>
    cases e
    obtain ⟨p, us, rfl, h5, r5⟩ := DR.toLst h
    exact ⟨p, us, rfl, sb.xt.lst h5, r5⟩
  | own xs =>
    cases e
    obtain ⟨p, us, rfl, a, r⟩ := h
    exact ⟨p, us, rfl, a, r⟩
  | fr xs =>
    cases e
    obtain ⟨p, us, rfl, _, _, a, r⟩ := h
    exact ⟨p, us, rfl, a, r⟩
  | dc ks ds => cases e
theorem cs_sorted2 : CallS S E (fun vs H Q => rSortedI S.K vs H Q ∨ rSortD S.K vs H Q) bSorted2 := fun HA G H vs ls sb r => by
  unfold bSorted2
  split
  · rename_i a
    obtain ⟨x, rfl, r1⟩ := wrs1 r
    split
    · rename_i ns e1
      have h := cs_sorted (S := S) (E := E) HA G H [x] [a] sb (.cons r1 .nil)
      unfold bSorted at h
      simp only [e1] at h
      exact h.imp fun Q q => .inl q
    · split
      · rename_i ds e
        split
        · rename_i hb
          obtain ⟨h1, h2, h3⟩ := sortB_ok hb
          obtain ⟨p, us, rfl, hp, r5⟩ := wr_list r1 sb e
          obtain ⟨l, rfl, rfl, h4⟩ := drs_zip r5
          have key : sortD (l.map (·.2)) = (l.mergeSort (PySem.W.dataLe false (·.2))).map (·.2) := (List.map_mergeSort (r := PySem.W.dataLe false (fun p : V × D => p.2)) (s := PySem.W.dataLe false id) (f := fun p : V × D => p.2) (l := l) fun a _ b _ => rfl).symm
          rw [key]
          refine ev_newL sb (zip_drs fun p hp => h4 p (List.mem_mergeSort.mp hp)) fun Q q => .inr ⟨p, l, rfl, SqL.of hp, fun p hp => ?_, h1, h2, fun p hp => SeqAt.depth_of_shaped (h3 _ (List.mem_map_of_mem hp)), q⟩
          have sh := h3 _ (List.mem_map_of_mem hp)
          exact DR.dp _ _ (DR.up (h4 p hp) sb.xt) (SeqAt.canLay_of_shaped sh)
        · exact EvG.stk
      · exact EvG.stk
  · exact EvG.stk
end
end PD
/-! the set of a list of whole numbers -/
namespace PD
open PySem PySem.Spec PyProof.Rows L2
/-- a set as it is made -/
abbrev eSet (w : World) : Obj := ⟨.type "set", none, .set #[] 0 (.fresh 0 0 (!w.params.followText "set-order")), #[]⟩
section
variable {P : Program} {w : World} {A : Around} {E : Value → Shared → Prop} {z : Shared}
theorem set_of_list {l : Addr} {its : Array Value} (ns : List Int) {Q : Value → Shared → Prop} (hA : A.handled = none) (hl : z.heap.IsList l its) (hi : IntsAre its.toList ns) (hn : ns.length + 1 < scanBound)
    (fin : ∀ (g : Heap) (tk c : Nat), SetR w g z.heap.objs.size (fun j => decide (j ∈ ns)) c → c ≤ ns.length → (∀ b o, z.heap.get? b = some o → g.get? b = some o) → Q (.ref z.heap.objs.size) { z with heap := g, toks := tk }) :
    wpAny (model P w) A (call (.type "set") [.ref l]) Q E z := by
  have len : its.size = ns.length := by rw [← IntsAre.length hi, Array.length_toList]
  obtain ⟨c, tl, hmro⟩ := F.called_set.mro
  have a1 := F.called_set.made
  have a2 := F.called_set.sub
  refine wpAny_call (codeAny_of_tree (show wpAny _ _ (callAny (.type "set") _) _ _ _ from ?_))
  refine wpAny_pure ⟨Code.quiet_builtin _ (by decide +kernel), codeAny_builtin F.entry_type_call ?_⟩
  rw [Around.under_plain (weight_type_call_type "set" [.ref l] []) rfl]
  have a3 := F.called_set.notType
  have a4 := F.called_set.canCreate
  have a5 := F.typeCall_set_1 (.ref l)
  repeat (any_goals (first | assumption | wp_step))
  refine codeAny_mono (code_set_led1 (.ref l) (E := E) (Q₁ := fun u t => u = .ref z.heap.objs.size ∧ t = { z with heap := z.heap.push (eSet w) }) ⟨rfl, rfl⟩) fun r t hr => ?_
  cases r with
  | error e => exact hr
  | ok fl =>
    cases fl with
    | next => exact hr
    | brk => exact hr
    | cont => exact hr
    | ret u =>
      obtain ⟨rfl, rfl⟩ := hr
      have hS : (z.heap.push (eSet w)).get? z.heap.objs.size = some (eSet w) := Heap.get?_push_size _ rfl
      have hT : Shared.TypeIs { z with heap := z.heap.push (eSet w) } (.ref z.heap.objs.size) "set" := ⟨_, hS, rfl⟩
      have b1 := F.called_set.init.lookup
      have b2 := F.called_set.init.bind (.ref z.heap.objs.size)
      repeat (any_goals (first | assumption | wp_step))
      refine codeAny_mono (codeAny_call_builtin (R := wants (fun v t => v = .none ∧ ∃ g tk c, t = { z with heap := g, toks := tk } ∧ SetR w g z.heap.objs.size (fun j => decide (j ∈ ns)) c ∧ c ≤ ns.length ∧ (∀ b o, z.heap.get? b = some o → g.get? b = some o)) E)
        F.called_set.init.plain F.entry_set_init (check_set_init_1 hT ?_)) fun r2 t2 hr2 => ?_
      · obtain ⟨⟨cl, di, da, sl⟩, ho, e1, m, e2⟩ := hl
        simp only at e1 e2
        subst e1; subst e2
        have ho2 : (z.heap.push (eSet w)).get? l = some ⟨.type "list", di, .seq its m, sl⟩ := Heap.get?_push_of_some _ ho
        have n1 := F.sub_list_set
        have n2 := F.sub_list_frozenset
        have n3 : (Value.type "list" == Value.type "dict") = false := by decide
        have hl2 : (z.heap.push (eSet w)).IsList l its := ⟨_, ho2, rfl, m, rfl⟩
        unfold Builtin.«set.__init__» noKeywords Builtin.Frozenset.updateFrom
        generalize hPI : pyIter = PI
        wp_walk
        subst hPI
        refine wpAny_pyIter_list hl2 ?_
        refine wpAny_bind (wpAny_runValue ?_)
        have lt : l < z.heap.objs.size := Heap.lt_size ho
        have h3 : A.in1.in1.in1.handled = none := by simp [hA]
        have sz : (z.heap.push (eSet w)).objs.size = z.heap.objs.size + 1 := Heap.size_push ..
        have ne1 : l ≠ (z.heap.push (eSet w)).objs.size := by rw [sz]; exact Nat.ne_of_lt (Nat.lt_succ_of_lt lt)
        have ne2 : z.heap.objs.size ∉ [(z.heap.push (eSet w)).objs.size, l] := by
          simp only [List.mem_cons, List.not_mem_nil, or_false, not_or]
          exact ⟨by rw [sz]; exact Nat.ne_of_lt (Nat.lt_succ_self _), Nat.ne_of_gt lt⟩
        have hv : ∀ (i : Nat) (v : Value), its[i]? = some v → ∃ k t, ns[i]? = some k ∧ v = .int k t := fun i v e => by
          have lti : i < ns.length := by rw [← len]; exact (Array.getElem?_eq_some_iff.mp e).1
          obtain ⟨t, e3⟩ := PyProof.Rows.IntsAre.int_at hi i v (by rw [Array.getElem?_toList]; exact e)
          have e4 : ns.getD i 0 = ns[i] := by
            rw [List.getD_eq_getElem?_getD, List.getElem?_eq_getElem lti]
            rfl
          exact ⟨ns[i], t, List.getElem?_eq_getElem lti, by rw [e3, e4]⟩
        refine set_update_ints ((Walks.list h3 _ l ne1 its).toS) z.heap.objs.size ne2 ns len hn hv (its.size - 0) 0 _ (by omega) (Nat.zero_le _) ⟨⟨_, Heap.get?_push_size _ rfl, rfl, rfl⟩, (hl2.push _)⟩ ⟨0, Nat.le_refl 0, setR_new_at (Heap.get?_push_of_some _ hS)⟩ ?_
        intro t c2 mv hc2 hS2
        obtain ⟨g, g2, d2, tk2, os2⟩ := t
        obtain rfl : g2 = z.gens := mv.gens
        obtain rfl : d2 = z.drawn := mv.drawn
        obtain rfl : os2 = z.os := mv.os
        rw [len] at hc2
        show wpAny _ _ _ _ _ _
        refine wpAny_pure (show wpAny _ _ (ret Value.none) _ _ _ from wpAny_pure ⟨rfl, g, tk2, c2, rfl, hS2, hc2, fun b o e => ?_⟩)
        have hb : b < z.heap.objs.size := Heap.lt_size e
        refine mv.heap b o ?_ (Heap.get?_push_of_some _ (Heap.get?_push_of_some _ e))
        simp only [List.mem_cons, List.not_mem_nil, or_false, not_or]
        exact ⟨Nat.ne_of_lt hb, by rw [sz]; exact Nat.ne_of_lt (Nat.lt_succ_of_lt hb)⟩
      · cases r2 with
        | error e => exact hr2
        | ok f2 =>
          cases f2 with
          | next => exact hr2.elim
          | brk => exact hr2.elim
          | cont => exact hr2.elim
          | ret v =>
            obtain ⟨rfl, g, tk, c2, rfl, q1, q2, q3⟩ := hr2
            repeat (any_goals (first | assumption | wp_step))
            exact fin _ _ _ q1 q2 q3
end
/-- set(xs) of whole numbers -/
def rSetLI (K : Frg) (w : World) : List V → Hp → VK → Prop := fun vs H Q => ∃ (a : Addr) (ns : List Int), vs = [V.ref a] ∧ SqL K H a (ns.map V.int) ∧ ns.length ≤ 4000 ∧ ∀ p c, c ≤ ns.length → H p = none → Q (.ref p) (upd H p (SetO w p (fun j => decide (j ∈ ns)) c))
theorem cr_setLI {X : Cx} (hc : X.calm = true) : CallR X (.type "set") (rSetLI X.K X.w) := by
  intro pins s σ H vs us Q I r h
  obtain ⟨a, ns, rfl, hs, hn, q⟩ := h
  obtain ⟨its, rv, hl, _⟩ := I.list hs
  rw [Vals.ref1 r]
  have hi : IntsAre its.toArray.toList ns := by simpa using rv.ints
  refine set_of_list ns (I.ok.hd hc) hl.isList hi (by unfold scanBound; omega) fun g tk c R hc2 k => ?_
  exact ⟨.ref _, upd H s.heap.objs.size (SetO X.w s.heap.objs.size (fun j => decide (j ∈ ns)) c), I.laid (t' := tk) k (Nat.le_refl _) (setO_new R), rfl, q _ c hc2 (I.hok.fresh (Nat.le_refl _))⟩
/-- the members, rising, each once -/
def insU (k : Int) : List Int → List Int
  | [] => [k]
  | x :: xs => if k < x then k :: x :: xs else if k = x then x :: xs else x :: insU k xs
def sortU : List Int → List Int
  | [] => []
  | x :: xs => insU x (sortU xs)
theorem insU_mem {k j : Int} : ∀ {xs : List Int}, j ∈ insU k xs ↔ j = k ∨ j ∈ xs
  | [] => by simp [insU]
  | x :: xs => by
    unfold insU
    split
    · simp
    · split
      · rename_i h1 h2
        subst h2
        simp
      · rw [List.mem_cons, insU_mem, List.mem_cons]
        constructor
        · rintro (h | h | h) <;> simp [h]
        · rintro (h | h | h) <;> simp [h]
theorem insU_lt {k : Int} : ∀ {xs : List Int}, xs.Pairwise (· < ·) → (insU k xs).Pairwise (· < ·)
  | [], _ => by simp [insU]
  | x :: xs, h => by
    have h' := List.pairwise_cons.mp h
    unfold insU
    split
    · rename_i q
      refine List.pairwise_cons.mpr ⟨fun y hy => ?_, h⟩
      rcases List.mem_cons.mp hy with e | e
      · omega
      · have := h'.1 y e; omega
    · split
      · exact h
      · refine List.pairwise_cons.mpr ⟨fun y hy => ?_, insU_lt h'.2⟩
        rcases insU_mem.mp hy with e | e
        · omega
        · exact h'.1 y e
theorem sortU_lt : ∀ xs : List Int, (sortU xs).Pairwise (· < ·)
  | [] => .nil
  | x :: xs => insU_lt (sortU_lt xs)
theorem sortU_mem {j : Int} : ∀ {xs : List Int}, j ∈ sortU xs ↔ j ∈ xs
  | [] => by simp [sortU]
  | x :: xs => by
    show j ∈ insU x (sortU xs) ↔ _
    rw [insU_mem, sortU_mem, List.mem_cons]
theorem lt_unique : ∀ {xs ys : List Int}, xs.Pairwise (· < ·) → ys.Pairwise (· < ·) → (∀ k, k ∈ xs ↔ k ∈ ys) → xs = ys
  | [], [], _, _, _ => rfl
  | [], y :: ys, _, _, h => absurd ((h y).mpr (List.mem_cons_self ..)) (by simp)
  | x :: xs, [], _, _, h => absurd ((h x).mp (List.mem_cons_self ..)) (by simp)
  | x :: xs, y :: ys, hx, hy, h => by
    have h1 := List.pairwise_cons.mp hx
    have h2 := List.pairwise_cons.mp hy
    have e : x = y := by
      rcases List.mem_cons.mp ((h x).mp (List.mem_cons_self ..)) with a | a
      · exact a
      · rcases List.mem_cons.mp ((h y).mpr (List.mem_cons_self ..)) with b | b
        · exact b.symm
        · have := h1.1 y b
          have := h2.1 x a
          omega
    subst e
    rw [lt_unique h1.2 h2.2 fun k => ?_]
    constructor
    · intro hk
      rcases List.mem_cons.mp ((h k).mp (List.mem_cons_of_mem _ hk)) with a | a
      · have := h1.1 k hk; omega
      · exact a
    · intro hk
      rcases List.mem_cons.mp ((h k).mpr (List.mem_cons_of_mem _ hk)) with a | a
      · have := h2.1 k hk; omega
      · exact a
/-- sorted(set(xs)) -/
def oSrtSet (l : L) : M L := match rdInts l with
  | some ns => if ns.length < 64 then .ok (.fr ((sortU ns).map .int)) else .stuck
  | none => .stuck
end PD
/-! xs[::e], e being 1 or -1 -/
namespace PD
open PySem PySem.Spec PyProof.Rows L2
def rStep (K : Frg) : R2 := fun x y H Q => ∃ a xs k, x = .ref a ∧ y = .int k ∧ SqL K H a xs ∧ (k = 1 ∨ k = -1) ∧ ∀ p, H p = none → Q (.ref p) (upd H p (.lst (if k = 1 then xs else xs.reverse)))
theorem pick_one (items : Array Value) : slicePick items none none (some 1) = items := by
  have e : slicePick items none none (some 1) = slicePick items none none none := rfl
  rw [e, PySem.W.kmk_pick_nat items (a := 0) (b := items.size) (by simp [sliceBounds])]
  rw [List.drop_zero, Nat.sub_zero, List.take_of_length_le (by rw [Array.length_toList]; exact Nat.le_refl _)]
theorem pe_step {X : Cx} {e st : Expr} {te ts : TE} {p3 pos : Pos} (he : PE X e te) (hs : PE X st ts) : PE X (.Subscript e (.Slice none none (some st) p3) pos) (tOp (rStep X.K) te ts) := by
  refine ⟨fun pins s σ H Q I h => ?_⟩
  refine Subscript_ (thn (he.run pins s σ H _ I h) fun v s1 ⟨x, H1, I1, r1, q1⟩ => ?_)
  refine wpAny_Slice (thn (po_none.run pins s1 σ H1 (fun o H2 => o = none ∧ H2 = H1) I1 ⟨rfl, rfl⟩) fun vl s2 ⟨l, H2, I2, pl, el, e2⟩ => ?_)
  subst el e2
  refine thn (po_none.run pins s2 σ H2 (fun o H3 => o = none ∧ H3 = H2) I2 ⟨rfl, rfl⟩) fun vu s3 ⟨u, H3, I3, pu, eu, e3⟩ => ?_
  subst eu e3
  refine thn ((po_some hs).run pins s3 σ H3 (fun o H4 => ∃ k, o = some k ∧ rStep X.K x (.int k) H4 Q) I3 ?_) fun vs s4 ⟨o, H4, I4, ps, k, eo, q4⟩ => ?_
  · refine (fun z => z) ?_
    show ts σ H3 fun y H5 => ∃ i, y = .int i ∧ ∃ k, some i = some k ∧ rStep X.K x (.int k) H5 Q
    have e : (fun y H5 => ∃ i, y = V.int i ∧ ∃ k, some i = some k ∧ rStep X.K x (.int k) H5 Q) = fun y H5 => rStep X.K x y H5 Q := by
      funext y H5
      refine propext ⟨?_, ?_⟩
      · rintro ⟨i, rfl, k, ek, q⟩
        cases ek
        exact q
      · intro q
        obtain ⟨a, xs, k, ex, ey, r⟩ := id q
        exact ⟨k, ey, k, rfl, by rw [← ey]; exact q⟩
    rw [e]
    exact q1
  subst eo
  obtain ⟨a, xs, k', ex, ey, hx, hk, q⟩ := q4
  cases ey
  subst ex
  cases r1
  have I5 : Inv X pins σ H4 { s4 with heap := s4.heap.push { cls := .type "slice", data := .fields #[vl, vu, vs] } } := I4.kept (t' := s4.toks) fun b ob q => Heap.get?_push_of_some _ q
  obtain ⟨its, r, ht, hz⟩ := I5.list hx
  have hlen := r.length
  show wpAny (model X.prog X.w) X.A (subscriptTail e (.Slice none none (some st) p3) (.ref a) (.ref s4.heap.objs.size)) (EP X pins σ Q) X.xe { s4 with heap := s4.heap.push { cls := .type "slice", data := .fields #[vl, vu, vs] } }
  refine tail_any (ops := [.ref a, .ref s4.heap.objs.size]) ht.isList.typeIs (PySem.slot_list_getitem.lookup) ?_ (by with_unfolding_all rfl)
  refine wpAny_getItem_list_slice ht.isList (Heap.IsSliceOf.new _ vl vu vs) pl pu ps (by rcases hk with z | z <;> subst z <;> decide) ?_ (by rw [List.size_toArray]; omega)
  rcases hk with z | z
  · subst z
    rw [pick_one]
    rw [if_pos rfl] at q
    refine ⟨.ref _, _, I5.laid (t' := s4.toks) (o := .lst xs) (fun b ob q => Heap.get?_push_of_some _ q) (Nat.le_refl _) ?_, rfl, q _ (I5.hok.fresh (Nat.le_refl _))⟩
    exact ⟨hz, _, 0, r, Heap.get?_push_size _ rfl⟩
  · subst z
    rw [PySem.W.krv_pick]
    rw [if_neg (by decide)] at q
    refine ⟨.ref _, _, I5.laid (t' := s4.toks) (o := .lst xs.reverse) (fun b ob q => Heap.get?_push_of_some _ q) (Nat.le_refl _) ?_, rfl, q _ (I5.hok.fresh (Nat.le_refl _))⟩
    exact ⟨by rw [List.length_reverse]; exact hz, _, 0, r.reverse, Heap.get?_push_size _ rfl⟩
/-- its reading -/
def opStep (a b : L) : M L := match b with
  | .d (.int k) => (match a.rd with
    | .ok (.list xs) => if k = 1 then .ok (.fr xs) else if k = -1 then .ok (.fr xs.reverse) else .stuck
    | _ => .stuck)
  | _ => .stuck
theorem os_step {S : Sys} {E : XK} : OpS S E (rStep S.K) opStep := fun HA HB G H x y a b sb ra rb => by
  unfold opStep
  split
  · rename_i k
    split
    · rename_i xs e1
      obtain ⟨p, vs, rfl, h1, r1⟩ := rd_lst sb ra e1
      have ey := DR.toInt rb
      subst ey
      split
      · rename_i hk
        exact ev_newL sb r1 fun Q q => ⟨p, vs, k, rfl, rfl, SqL.of h1, .inl hk, fun p' hp' => by rw [if_pos hk]; exact q p' hp'⟩
      · rename_i hk
        split
        · rename_i hk2
          exact ev_newL sb r1.reverse fun Q q => ⟨p, vs, k, rfl, rfl, SqL.of h1, .inr hk2, fun p' hp' => by rw [if_neg hk]; exact q p' hp'⟩
        · exact EvG.stk
    · exact EvG.stk
  · exact EvG.stk
end PD
/-! lists of one's own, handed on for the time of an expression that gives a number or a truth -/
namespace PD
open PySem PySem.Spec PyProof.Rows L2
def scal : L → M L
  | .d (.int i) => .ok (.d (.int i))
  | .d (.bool i) => .ok (.d (.bool i))
  | _ => .stuck
def eTmp (is : List Nat) (f : EF) : EF := fun env => (f (fzE is env)).bind scal
section
variable {S : Sys} {k : Nat} {E : XK} {cc : CC} {sc : SC}
theorem At.frz1 {H0 G H : Hp} {σ : L2.St} {env : List L} (a : At S H0 G H σ env) (i : Nat) : ∃ G', At S H0 G' H σ (PD.frz1 env i) := by
  have add : ∀ {p : Addr} {o : HO}, H p = some o → (∀ ps, o ≠ .tbl ps) → Sb (upd G p o) H := fun {p o} hp hn b u e => by
    by_cases z : b = p
    · subst z
      rw [upd_same] at e
      cases e
      exact ⟨hp, hn⟩
    · rw [upd_ne z] at e
      exact a.sb b u e
  unfold PD.frz1
  split
  · rename_i xs e
    obtain ⟨p, vs, h1, z, g, hp, r, _, c⟩ := a.env.write e
    exact ⟨_, add hp (fun ps q => by cases q), a.tb, c⟩
  · rename_i ks ds e
    obtain ⟨p, vs, h1, z, g, hp, hl, r, _, c⟩ := a.env.writeK e
    exact ⟨_, add hp (fun ps q => by cases q), a.tb, c⟩
  · exact ⟨G, a⟩
theorem At.fz {H0 H : Hp} {σ : L2.St} : ∀ (is : List Nat) {G : Hp} {env : List L}, At S H0 G H σ env → ∃ G', At S H0 G' H σ (fzE is env)
  | [], G, env, a => ⟨G, a⟩
  | i :: is, G, env, a => by
    obtain ⟨G1, a1⟩ := a.frz1 i
    exact At.fz is a1
theorem ce_tmp {e : Expr} {f : EF} (is : List Nat) (h : CE S k E cc sc e f) : CE S k E cc sc e (eTmp is f) := by
  obtain ⟨t, p, v⟩ := h
  refine ⟨t, p, fun H0 G H σ env a => ?_⟩
  obtain ⟨G', a'⟩ := a.fz is
  have ev := v H0 G' H σ _ a'
  have back : ∀ {G2 H2 : Hp}, Gr S G' H G2 H2 → Gr S G H G H2 := fun {G2 H2} x => ⟨x.h, Xt.refl _, a.sb.up x.h, fun _ _ z => z, x.dom, x.t⟩
  show EvG S E (WR S) (t σ H) G H ((f (fzE is env)).bind scal)
  cases ef : f (fzE is env) with
  | stuck => exact EvG.stk
  | ex c =>
    rw [ef] at ev
    exact fun Q q => ev Q fun G2 H2 x => q G H2 (back x)
  | ok l =>
    rw [ef] at ev
    show EvG S E (WR S) (t σ H) G H (scal l)
    unfold scal
    split
    · exact fun Q q => ev Q fun x G2 H2 gr rx => q x G H2 (back gr) (by
        have : x = .int _ := DR.toInt rx
        subst this
        exact .int _)
    · exact fun Q q => ev Q fun x G2 H2 gr rx => q x G H2 (back gr) (by
        have : x = .bl _ := DR.toBl rx
        subst this
        exact .bl _)
    · exact EvG.stk
end
end PD
/-! where an exception is handled: lists walked, list comprehensions, sums -/
namespace PD
open PySem PySem.Spec PyProof.Rows L2 HotX L2H
section
variable {prog : Program} {w : World} {A : Around} {E : Value → Shared → Prop} {s : Shared}
/-- a list's iterator comes to its end while an exception is handled -/
theorem list_end_hot {it l x1 : Addr} {i : Nat} {items : Array Value} {Q : Option Value → Shared → Prop} (hot : HotAt A x1 s.heap) (hx1 : x1 ≠ it) (hit : s.heap.IsListIter it l i) (hl : s.heap.IsList l items) (hx : items[i]? = none)
    (hQ : ∀ h', Heap.ExtBut it s.heap h' → Q none { s with heap := h' }) : wpAny (model prog w) A (pyNext (.ref it)) Q E s := by
  obtain ⟨o, ho, hc, hd⟩ := id hit
  obtain ⟨ol, hol, _, nl, hdl⟩ := hl
  obtain ⟨hh, o1, vs1, h1, d1, c1⟩ := hot
  unfold pyNext
  refine wpAny_bind (wpAny_attempt (wpAny_callSpecial?_slot (name := Str.ofString "__next__") hit.typeIs slot_listiter_next
    (wpAny_call_entry slot_listiter_next hit.typeIs entry_listiter_next ?_ (args_listiter_next _))))
  show wpAny _ _ (field (.ref it) 0 >>= _) _ _ s
  refine wpAny_bind (wpAny_field ho hd (x := .ref l) rfl ?_)
  show wpAny _ _ (if (Value.ref l == Value.none) = true then _ else _) _ _ s
  rw [if_neg (show ¬ ((Value.ref l == Value.none) = true) from Bool.false_ne_true)]
  show wpAny _ _ (field (.ref it) 1 >>= _) _ _ s
  refine wpAny_bind (wpAny_field ho hd (x := .int i 0) rfl ?_)
  show wpAny _ _ (seqItems? (.ref l) >>= _) _ _ s
  refine wpAny_bind (wpAny_seqItems hol hdl ?_)
  simp only [Int.toNat_natCast, hx]
  refine wpAny_bind (wpAny_rule (wpAny_bind (wpAny_setField ho hd (by simp) ?_)))
  show wpAny _ _ (newExc (.type "StopIteration") [] >>= _) _ _ _
  refine wpAny_bind ?_
  simp only [newExc, newTuple]
  refine wpAny_bind (wpAny_newObj_type ?_ (by size_fits))
  refine wpAny_bind (m := firstArgMember _ _) (wpAny_of_eq (a := Value.none) (by first | rfl | (simp only [firstArgMember]; rfl)) ?_)
  refine wpAny_newObj_type ?_ (by size_fits)
  have sb : Heap.SameBut it s.heap (s.heap.update it (Obj.mapFields (·.setIfInBounds 0 .none))) := Heap.SameBut.update ..
  have h1' : (s.heap.update it (Obj.mapFields (·.setIfInBounds 0 .none))).get? x1 = some o1 := (sb.2 x1 hx1).trans h1
  refine raiseNew_hot ⟨hh, o1, vs1, Heap.get?_push_of_some _ (Heap.get?_push_of_some _ h1'), d1, c1⟩ (Nat.ne_of_lt (Heap.lt_size (Heap.get?_push_of_some _ h1'))) (Heap.get?_push_size _ rfl) rfl (by first | (simp; done) | (simp; omega) | (simp only [Array.size_append]; simp; omega)) ?_
  refine wpAny_bind (wpAny_isInstance (T := "StopIteration") (b := true) ⟨_, Heap.get?_update_self _ (Heap.get?_push_size _ rfl) rfl, rfl⟩ isSubtype_stop ?_)
  refine wpAny_pure (hQ _ fun b o hb e => ?_)
  have e' : (s.heap.update it (Obj.mapFields (·.setIfInBounds 0 .none))).get? b = some o := (sb.2 b hb).trans e
  rw [Heap.get?_update_other _ _ (Nat.ne_of_gt (Heap.lt_size (Heap.get?_push_of_some _ e')))]
  exact Heap.get?_push_of_some _ (Heap.get?_push_of_some _ e')
end
end PD
namespace PD
open PySem PySem.Spec PyProof.Rows L2 HotX L2H
theorem turn_listH {P : Program} {w : World} {K : PySem.W.Frag} {tg : Expr} (a it : Addr) : TurnH P w K tg (Itl K a) [it] it (fun i h => h.IsListIter it a i) where
  mem := (turn_list (P := P) (w := w) (K := K) (tg := tg) a it).mem
  obj := (turn_list (P := P) (w := w) (K := K) (tg := tg) a it).obj
  keep := (turn_list (P := P) (w := w) (K := K) (tg := tg) a it).keep
  item := by
    intro X hP hw hK hc i pins s σ H E I hf st hg
    subst hP hw hK
    obtain ⟨xs, x, hq, hx⟩ := hg
    obtain ⟨its, rv, p, hz⟩ := I.list hq
    obtain ⟨u, hu, ru⟩ := rv.get hx
    obtain ⟨f0, f1, f2, f3, f4, f5⟩ := hf it (by simp)
    refine wpAny_pyNext_list_item st p.isList (x := u) (by simpa using hu) fun h' st' sb => ?_
    obtain ⟨o, e, c, d⟩ := id st'
    exact ⟨u, rfl, go_of (s := { s with heap := h' }) e c d (by decide) ⟨x, H, I.turned (t' := s.toks) (fun b o hb e => (sb.2 b hb).trans e) f0 f1 f3 f4 f5, ru, ⟨rfl, fun ys hy => by rw [I.list_inj hy hq]; exact hx⟩, st', fun b hb => (hf b hb).1⟩⟩
  done := by
    intro X hP hw hK hc i pins s σ H E I hf st hg
    subst hP hw hK
    obtain ⟨xs, hq, hx⟩ := hg
    obtain ⟨its, rv, p, hz⟩ := I.list hq
    obtain ⟨f0, f1, f2, f3, f4, f5⟩ := hf it (by simp)
    have hl := rv.length
    obtain ⟨q, ⟨hh, v1, e1, c1⟩, hp⟩ := hc
    have hq1 := I.pin q (List.mem_append_left _ hp)
    exact list_end_hot ⟨hh, q.2, v1, hq1.1, e1, c1⟩ (f5 q (List.mem_append_left _ hp)) st p.isList (by simp; omega) fun h' eb => ⟨rfl, I.turned (t' := s.toks) (fun b o hb e => eb b o hb e) f0 f1 f3 f4 f5⟩
  self := (turn_list (P := P) (w := w) (K := K) (tg := tg) a it).self
theorem pi_listH {X : Cx} {tg l : Expr} {tl : TE} (hl : PE X l tl) : PIH X tg l (iList X.K tl) := by
  refine ⟨fun pins s σ H R I h => ?_⟩
  refine thn (hl.run pins s σ H _ I h) fun v s1 ⟨x, H1, I1, r1, q1⟩ => ?_
  obtain ⟨a, e, ⟨xs, hq⟩, q⟩ := q1
  subst e
  obtain rfl : v = .ref a := r1
  obtain ⟨its, rv, p, hz⟩ := I1.list hq
  refine wpAny_pyIter_list p.isList ?_
  exact ⟨s1.heap.objs.size, [s1.heap.objs.size], _, _, H1, rfl, I1.kept (t' := s1.toks) fun b o e => Heap.get?_push_of_some _ e, turn_listH a _, ⟨_, Heap.get?_push_size _ rfl, rfl, rfl⟩, fun b hb => by
    obtain rfl : b = s1.heap.objs.size := by simpa using hb
    exact I1.fpOk (Nat.le_refl _) (I1.hok.fresh (Nat.le_refl _)), q⟩
/-- a comprehension's block, the handled exception pinned -/
abbrev blkH (X : Cx) (s : Shared) (H : Hp) (scope : Scope) (cenv : Env) (fp : List Addr) : Cx := { X.blk s H scope cenv fp with pn := X.pn }
theorem blkH_of {X : Cx} {s0 : Shared} {H0 : Hp} {scope : Scope} {cenv : Env} {fp : List Addr} {pins : List (Addr × Obj)} {σ : L2.St} {H : Hp} {s : Shared} (I : Inv (X.blk s0 H0 scope cenv fp) pins σ H s)
    (h : ∀ p ∈ X.pn, s.heap.get? p.1 = some p.2 ∧ H p.1 = none ∧ p.1 ≠ cenv.locals ∧ p.1 ∉ frs X.stack ∧ ∀ v, p.2.data ≠ .cell v) : Inv (blkH X s0 H0 scope cenv fp) pins σ H s :=
  ⟨⟨I.ok.mod, I.ok.kind, I.ok.glob, I.ok.blt, I.ok.above, I.ok.inj, I.ok.has, I.ok.cab, I.ok.hd, I.ok.frames, I.ok.stk, I.ok.exf, I.ok.bs, I.ok.bsz, I.ok.noex, I.ok.exfs, I.ok.funs, I.ok.frf⟩, I.os, I.bare, I.base, I.loc, I.cell, I.free, I.freeC, fun p hp => (List.mem_append.mp hp).elim (fun z => h p z) fun z => I.pin p (List.mem_append_right _ z), I.hok, I.len⟩
section
variable {X : Cx}
theorem lc_coreH {pins : List (Addr × Obj)} {s : Shared} {σ : L2.St} {H : Hp} {Q : VK} {elt tg iter : Expr} {ifs : List Expr} {scope : Scope} {own : List (Str × Nat)} {pos pos' : Pos} {wi : TI} {g : TG} {tt : TT} {te : TE} {use : Option (Value → Sem Unit)} {Qf : Value → Shared → Prop}
    (hc : HotC X) (hN : X.N.Nodup) (I : Inv X pins σ H s) (hi : PIH X tg iter wi) (ok : BlkOk X.N X.env.scope scope own)
    (hg : ∀ (s : Shared) (H : Hp) (C : Addr) (cl : List (Str × Addr)) (fp : List Addr), PG (blkH X s H scope (compEnvC scope cl C X.env) fp) tg g) (ht : ∀ (s : Shared) (H : Hp) (C : Addr) (cl : List (Str × Addr)) (fp : List Addr), PTs (blkH X s H scope (compEnvC scope cl C X.env) fp) ifs tt)
    (he : ∀ (s : Shared) (H : Hp) (C : Addr) (cl : List (Str × Addr)) (fp : List Addr), PE (blkH X s H scope (compEnvC scope cl C X.env) fp) elt te) (hs : ∀ x, foldedSetIterable iter X.env x = pure x)
    (h : tLc wi g tt te (own.map (·.2)) σ H Q)
    (hRR : ∀ D C s' m H', Inv X pins σ H' s' → Q (.ref D) H' → s'.heap.Ns C m → FpOk X pins H' C → compPost (model X.prog X.w) X.A X.xe use Qf (.ref D) C (.ok .next) s') :
    wpAny (model X.prog X.w) X.A (comprehension (.ListComp elt [⟨tg, iter, ifs, 0⟩] scope pos) scope X.env pos' (newList []) false (eval iter X.env) use) Qf X.xe s := by
  have hfree : ∀ y ∈ scope.names, y.2 = .free → ∃ c, X.env.cells.lookup y.1 = some c := fun y hy e => (ok.free y hy e).elim (fun k => I.ok.has _ (.inl k)) fun k => I.ok.has _ (.inr k)
  refine wpAny_comprehension_free (use := use) rfl hs (closure_ok hfree) ok.kind (fun y hy e => by rw [ok.uniq y hy, e])
    (thn (hi.run pins s σ H _ I h) fun xv s1 hx => thn hx fun itv s2 h2 => ?_)
  obtain ⟨it, fp, tn, J, H2, e, I2, T, st2, f2, q⟩ := h2
  subst e
  refine wpAny_newObj_type (newEnv_comp ?_) (by show 0 ≤ sizeLine; decide)
  generalize hD : s2.heap.objs.size = D
  have hDn : H2 D = none := I2.hok.fresh (Nat.le_of_eq hD)
  obtain ⟨W, ⟨m0, w0⟩, turn⟩ := q D hDn
  generalize hs3 : ({ s2 with heap := s2.heap.push { cls := .type "list", data := .seq ([] : List Value).toArray } } : Shared) = s3
  have h3 : s3.heap = s2.heap.push { cls := .type "list", data := .seq ([] : List Value).toArray } := by rw [← hs3]
  have I3 : Inv X pins σ (upd H2 D (.lst [])) s3 := by
    rw [← hs3]
    refine I2.laid (t' := s2.toks) (fun b o e => Heap.get?_push_of_some _ e) (Nat.le_of_eq hD) ⟨Nat.zero_le _, [], 0, .nil, ?_⟩
    rw [← hD]
    exact Heap.get?_push_size _ rfl
  have f3 : ∀ b ∈ fp, FpOk X pins (upd H2 D (.lst [])) b ∧ b < s3.heap.objs.size := fun b hb => by
    obtain ⟨o, e, _⟩ := T.obj _ _ st2 b hb
    have hlt := Heap.lt_size e
    refine ⟨⟨?_, (f2 b hb).2⟩, by rw [h3, Heap.size_push]; exact Nat.lt_succ_of_lt hlt⟩
    rw [upd_ne (by rw [← hD]; exact Nat.ne_of_lt hlt)]
    exact (f2 b hb).1
  have st3 : tn 0 s3.heap := T.keep _ _ _ st2 fun b _ o e => by rw [h3]; exact Heap.get?_push_of_some _ e
  have I4 := block_start I3 ok hN f3
  have pg := hg s3 (upd H2 D (.lst [])) s3.heap.objs.size (cellsFrom (s3.heap.objs.size + 1) scope.names (cloFrom X.env.cells scope.names [])) fp
  have pt := ht s3 (upd H2 D (.lst [])) s3.heap.objs.size (cellsFrom (s3.heap.objs.size + 1) scope.names (cloFrom X.env.cells scope.names [])) fp
  have pe := he s3 (upd H2 D (.lst [])) s3.heap.objs.size (cellsFrom (s3.heap.objs.size + 1) scope.names (cloFrom X.env.cells scope.names [])) fp
  show codeAny _ _ (.compStart (.ListComp elt [⟨tg, iter, ifs, 0⟩] scope pos) 0 (.ref it) (.ref D) (compEnvC scope (cellsFrom (s3.heap.objs.size + 1) scope.names (cloFrom X.env.cells scope.names [])) s3.heap.objs.size X.env)) (compPost (model X.prog X.w) X.A X.xe use Qf (.ref D) s3.heap.objs.size) { s3 with heap := pushCells (s3.heap.push { cls := .type "dict", data := .dict #[] }) scope.names }
  have nfp : ∀ b ∈ fp, (upd H2 D (.lst [])) b = none := fun b hb => (f3 b hb).1.1
  generalize hce : compEnvC scope (cellsFrom (s3.heap.objs.size + 1) scope.names (cloFrom X.env.cells scope.names [])) s3.heap.objs.size X.env = ce at I4 pg pt pe ⊢
  have cL : ce.locals = s3.heap.objs.size := by subst hce; rfl
  generalize hH3 : upd H2 D (.lst []) = H3 at I3 I4 pg pt pe w0 nfp f3
  generalize hs4 : ({ s3 with heap := pushCells (s3.heap.push { cls := .type "dict", data := .dict #[] }) scope.names } : Shared) = s4 at I4 ⊢
  have kp4 : ∀ b o, s3.heap.get? b = some o → s4.heap.get? b = some o := fun b o e => by rw [← hs4]; exact pushCells_keeps _ _ _ _ (Heap.get?_push_of_some _ e)
  have st4 : tn 0 s4.heap := T.keep _ _ _ st3 fun b _ o e => kp4 b o e
  have I4' : Inv (blkH X s3 H3 scope ce fp) [] (wipe σ (own.map (·.2))) H3 s4 := blkH_of I4 fun p hp => by
    obtain ⟨p1, p2, p3, p4, p5⟩ := I3.pin p (List.mem_append_left _ hp)
    refine ⟨kp4 _ _ p1, p2, by rw [cL]; exact Nat.ne_of_lt (Heap.lt_size p1), fun z => ?_, p5⟩
    rcases List.mem_cons.mp (I3.stkSub _ z) with y | y
    · exact p3 y
    · exact p4 y
  have stat : ∀ {σ' : L2.St} {H' : Hp} {s' : Shared}, Inv (blkH X s3 H3 scope ce fp) [] σ' H' s' → (∀ b ∈ fp, H' b = none) → ∀ b ∈ fp, FpOk (blkH X s3 H3 scope ce fp) [] H' b := fun {σ' H' s'} I' hn b hb =>
    ⟨hn b hb, (I'.ok.exf b hb).1, I'.ok.exfs b hb, .inl hb, fun x c e => (I'.ok.exf b hb).2 x c e, fun p hp => (List.mem_append.mp hp).elim (fun z => (f3 b hb).1.2.2.2.2.2 p (List.mem_append_left _ z)) fun z => absurd z (by simp)⟩
  have loop : codeAny (model X.prog X.w) X.A (.compLoop (.ListComp elt [⟨tg, iter, ifs, 0⟩] scope pos) 0 (.ref it) (.ref D) ce) (compPost (model X.prog X.w) X.A X.xe use Qf (.ref D) s3.heap.objs.size) s4 := by
    refine compLoop_any (fun n s' => ∃ i H', Inv (blkH X s3 H3 scope ce fp) [] (wipe σ (own.map (·.2))) H' s' ∧ tn i s'.heap ∧ (∀ b ∈ fp, H' b = none) ∧ W i n H') ?_ m0 ⟨0, H3, I4', st4, nfp, w0⟩
    rintro n s5 ⟨i, H5, I5, st5, n5, w5⟩
    rcases turn i n H5 w5 with ⟨stop, qq⟩ | ⟨go, Nx, hNx, step⟩
    · have td := T.done (blkH X s3 H3 scope ce fp) rfl rfl rfl hc i [] s5 _ H5 (fun _ _ => False) I5 (stat I5 n5) st5 stop
      refine thnF td fun r s6 ⟨hr, I6⟩ => ?_
      subst hr
      have I7 : Inv X pins σ H5 s6 := I3.call' (ch := fp) I6.os I6.base I6.hok I6.bare fun b hb => ⟨(f3 b hb).1.2.2.2.1, (f3 b hb).1.2.1, (f3 b hb).1.2.2.2.2.1, (f3 b hb).1.2.2.2.2.2⟩
      have nC : H5 s3.heap.objs.size = none := by
        have z : H5 ce.locals = none := I6.free
        rw [cL] at z
        exact z
      obtain ⟨m, hn, _⟩ := I6.loc
      have hn : s6.heap.Ns ce.locals m := hn
      rw [cL] at hn
      exact hRR D s3.heap.objs.size s6 m H5 I7 qq hn (I3.fpOk (Nat.le_refl _) nC)
    · have ti := T.item (blkH X s3 H3 scope ce fp) rfl rfl rfl hc i [] s5 _ H5 (fun _ _ => False) I5 (stat I5 n5) st5 go
      refine thnF ti fun r s6 ⟨u, hr, h6⟩ => ?_
      subst hr
      refine thnF h6 fun _ s7 ⟨x, H7, I7, r7, y7, st7, n7⟩ => ?_
      have I7' := I7.pinned (stat I7 n7) (T.obj _ _ st7)
      refine thnF (pg.run _ s7 _ H7 x u _ I7' r7 (step x H7 y7)) fun _ s8 ⟨σ8, H8, I8, hw8, q8⟩ => ?_
      refine thnF (pt.run _ s8 σ8 H8 _ I8 q8) fun b s9 ⟨H9, I9, q9⟩ => ?_
      have fin : ∀ {s' : Shared} {H' : Hp}, Inv (blkH X s3 H3 scope ce fp) ([] ++ pinsAt fp s7.heap) σ8 H' s' → Nx H' → ∃ m, m < n ∧ ∃ i H', Inv (blkH X s3 H3 scope ce fp) [] (wipe σ (own.map (·.2))) H' s' ∧ tn i s'.heap ∧ (∀ b ∈ fp, H' b = none) ∧ W i m H' := fun {s' H'} I' nx => by
        obtain ⟨m', hm, w'⟩ := hNx H' nx
        have pin' : ∀ b ∈ fp, ∀ o, s7.heap.get? b = some o → s'.heap.get? b = some o ∧ H' b = none := fun b hb o e =>
          let z := I'.pin (b, o) (List.mem_append_right _ (List.mem_append_right _ (mem_pinsAt hb e)))
          ⟨z.1, z.2.1⟩
        have hl : (wipe σ (own.map (·.2))).length = σ8.length := by rw [← hw8, wipe_length]
        refine ⟨m', hm, i + 1, H', (I'.unpinned (pins := [])).weak hl (fun j v e => ?_), T.keep _ _ _ st7 fun b hb o e => (pin' b hb o e).1, fun b hb => ?_, w'⟩
        · rw [← hw8] at e
          exact (wipe_some e).1
        · obtain ⟨o, e, _⟩ := T.obj _ _ st7 b hb
          exact (pin' b hb o e).2
      cases b with
      | false =>
        simp only [Bool.false_eq_true, if_false] at q9 ⊢
        exact fin I9 q9
      | true =>
        simp only [if_true] at q9 ⊢
        refine thnF (pe.run _ s9 σ8 H9 _ I9 q9) fun z s10 ⟨yv, H10, I10, r10, acc, hD10, hz10, nx⟩ => ?_
        exact app_ok (X := blkH X s3 H3 scope ce fp) I10 hD10 hz10 r10 fun s11 I11 => fin I11 nx
  exact codeAny_compStart_list loop (T.self X.A 0 _ _ _ st4 loop)
theorem pe_lcH {elt tg iter : Expr} {ifs : List Expr} {scope : Scope} {own : List (Str × Nat)} {pos : Pos} {wi : TI} {g : TG} {tt : TT} {te : TE} (hc : HotC X) (hN : X.N.Nodup) (hi : PIH X tg iter wi) (ok : BlkOk X.N X.env.scope scope own)
    (hg : ∀ (s : Shared) (H : Hp) (C : Addr) (cl : List (Str × Addr)) (fp : List Addr), PG (blkH X s H scope (compEnvC scope cl C X.env) fp) tg g) (ht : ∀ (s : Shared) (H : Hp) (C : Addr) (cl : List (Str × Addr)) (fp : List Addr), PTs (blkH X s H scope (compEnvC scope cl C X.env) fp) ifs tt)
    (he : ∀ (s : Shared) (H : Hp) (C : Addr) (cl : List (Str × Addr)) (fp : List Addr), PE (blkH X s H scope (compEnvC scope cl C X.env) fp) elt te) (hs : ∀ x, foldedSetIterable iter X.env x = pure x) :
    PE X (.ListComp elt [⟨tg, iter, ifs, 0⟩] scope pos) (tLc wi g tt te (own.map (·.2))) := by
  refine ⟨fun pins s σ H Q I h => ?_⟩
  rw [eval_ListComp]
  refine lc_coreH hc hN I hi ok hg ht he hs h fun D C s' m H' I' q hn f => ⟨m, hn, fun h'' sb => ?_⟩
  obtain ⟨f0, f1, f2, f3, f4, f5⟩ := f
  exact ⟨.ref D, H', I'.turned (t' := s'.toks) (fun b o hb e => (sb.2 b hb).trans e) f0 f1 f3 f4 f5, rfl, q⟩
end
/-! a sum of whole numbers -/
theorem walks_listH {prog : Program} {w : World} {A : Around} {x1 it l : Addr} {o1 : Obj} {vs1 : Array Value} (hh : A.handled = some (.ref x1)) (d1 : o1.data = .fields vs1) (c1 : vs1[2]? = some .none) (hx : x1 ≠ it) (hne : l ≠ it) (items : Array Value) :
    Walks prog w A it [it, l, x1] [it] items.size (fun i v => items[i]? = some v) (fun i h => h.IsListIter it l i ∧ h.IsList l items ∧ h.get? x1 = some o1) where
  sub := fun b hb => by simp at hb; simp [hb]
  frame := fun i h h' st k => ⟨st.1.at fun o e => k it (by simp) o e, st.2.1.at fun o e => k l (by simp) o e, k x1 (by simp) o1 st.2.2⟩
  item := fun i s Q E hi st hQ => by
    refine wpAny_pyNext_list_item st.1 st.2.1 (x := items[i]) (by simp [hi]) fun h' st' sb => ?_
    exact hQ _ h' s.toks (by simp [hi]) ⟨st', st.2.1.at fun o e => (sb.2 l hne).trans e, (sb.2 x1 hx).trans st.2.2⟩ fun b o hb e => (sb.2 b (fun z => hb (by simp [z]))).trans e
  done := fun s Q E st hQ => list_end_hot ⟨hh, o1, vs1, st.2.2, d1, c1⟩ hx st.1 st.2.1 (by simp) fun h' eb => hQ h' s.toks fun b o hb e => eb b o (fun z => hb (by simp [z])) e
  self := fun i s Q E st h => wpAny_pyIter_listiter st.1 h
theorem preSum_take (ns : List Int) : ∀ j, j ≤ ns.length → preSum (fun i => ns.getD i 0) j = (ns.take j).sum
  | 0, _ => by simp [preSum]
  | j + 1, h => by
    have hj : j < ns.length := h
    rw [preSum, preSum_take ns j (by omega), List.take_add_one, List.sum_append]
    simp [List.getD_eq_getElem?_getD, hj]
theorem cr_sumH {X : Cx} (hc : HotC X) : CallR X (.builtin "sum") (rSum X.K) := by
  intro pins s σ H vs us Q I r h
  obtain ⟨a, ns, rfl, hs, q⟩ := h
  obtain ⟨its, rv, hl, _⟩ := I.list hs
  rw [Vals.ref1 r]
  obtain ⟨p, ⟨hh, v1, e1, c1⟩, hp⟩ := hc
  have hp1 := I.pin p (List.mem_append_left _ hp)
  have hlt : p.1 < s.heap.objs.size := Heap.lt_size hp1.1
  have hal : a < s.heap.objs.size := hl.lt
  have hin := rv.ints
  refine call_sum_walkG (wpAny_pyIter_list hl.isList ?_)
  refine ⟨s.heap.objs.size, _, _, its.toArray.size, _, _, fun i => ns.getD i 0, rfl, walks_listH (A := X.A.in1) (o1 := p.2) (vs1 := v1) (show X.A.in1.handled = some (.ref p.1) from hh) e1 c1 (Nat.ne_of_lt hlt) (Nat.ne_of_lt hal) its.toArray, ⟨⟨_, Heap.get?_push_size _ rfl, rfl, rfl⟩, hl.isList.at fun o e => Heap.get?_push_of_some _ e, Heap.get?_push_of_some _ hp1.1⟩, fun b hb => ?_, fun i v hv => ?_, fun h' tk t' hk => ?_⟩
  · rw [Heap.size_push]
    simp only [List.mem_cons, List.not_mem_nil, or_false] at hb
    rcases hb with z | z | z
    · rw [z]; exact Nat.lt_succ_self _
    · rw [z]; exact Nat.lt_succ_of_lt hal
    · rw [z]; exact Nat.lt_succ_of_lt hlt
  · obtain ⟨t, e⟩ := hin.int_at i v (by simpa using hv)
    exact ⟨t, e⟩
  · have e : preSum (fun i => ns.getD i 0) its.toArray.size = ns.sum := by
      have hlen : its.length = ns.length := by have := rv.length; rw [List.length_map] at this; omega
      rw [List.size_toArray, hlen, preSum_take ns _ (Nat.le_refl _), List.take_length]
    rw [e]
    exact ⟨.int _, H, I.kept (t' := tk) fun b o eo => hk b o (fun z => by
      have z : b = s.heap.objs.size := by simpa using z
      rw [z] at eo
      exact absurd (Heap.lt_size eo) (Nat.lt_irrefl _)) (Heap.get?_push_of_some _ eo), ⟨_, rfl⟩, q⟩
end PD
/-! a def called within an except suite, of the very exception -/
namespace PD
open PySem PySem.Spec PyProof.Rows L2 HotX L2H
/-- what a def promises where the exception p is handled -/
structure FnP (p : Addr × Obj) (P : Program) (w : World) (K : PySem.W.Frag) (mg : Str → Option Value) (base : Heap) (CX : CXT) (k : Nat) (f : Addr) (fd : FuncData) (ps : List Str) (sp : Sp) : Prop where
  len : ∀ vs H Q E, sp vs H Q E → vs.length = ps.length
  run : ∀ (A : Around) (outer : List Env) (s : Shared) (H : Hp) (args : Args) (us : List Value) (vs : List V) (Q : VK) (E : XK), RoomH k A → Hot1 A p → PinOk outer H s p → Env0 P w K mg base A outer s H → BindsTo s fd args (ps.zip us) → Vals vs us → sp vs H Q E →
    codeAny (model P w) A (.call (.ref f) args) (CR CX outer P w H s Q E) s
theorem fn_ofP {CX : CXT} {P : Program} {w : World} {K : PySem.W.Frag} {mg : Str → Option Value} {base : Heap} {k : Nat} {f : Addr} {name qual : Str} {params : Arguments} {body : List Stmt} {scope : Scope} {dV kV doc pm cdv ct oc : Value} {an od : Option Addr}
    {osl : Array (Option Value)} {N ps : List Str} {sp : Sp} {p : Addr × Obj} (lk : K.lookup f = some ⟨oc, od, .func (PySem.W.fnOf name qual params body scope dV kV doc pm an cdv ct), osl⟩) (hcd : PySem.W.codeIn K cdv qual = true) (S : FnScope N ps scope)
    (len : ∀ vs H Q E, sp vs H Q E → vs.length = ps.length)
    (hbody : ∀ (A : Around) (outer : List Env) (s : Shared) (H : Hp) (vs : List V) (Q : VK) (E : XK), Hot1 A p → RoomH k (A.deeper (envOfC qual scope s.heap.objs.size f cdv)) → sp vs H Q E →
      ∃ t, PSs (cxH CX P w K mg base N qual scope f cdv A outer s H E p) body t ∧ t { nx := fun _ H' => Q .non H', rt := Q } (L2.start N vs) H) :
    FnP p P w K mg base CX (k + 1) f (PySem.W.fnOf name qual params body scope dV kV doc pm an cdv ct) ps sp := by
  refine ⟨len, fun A outer s H args us vs Q E hr hot hpin e0 hb r hsp => ?_⟩
  have hl := len _ _ _ _ hsp
  have KX : K.In s.heap := e0.mod.kin.keeps fun b o e => (e0.bs b o e).1
  have lim : s.heap.NoLimit := e0.mod.nolimit.keeps fun b o e => (e0.bs b o e).1
  have hkind : ∀ y ∈ ps.zip us, scope.names.lookup y.1 = some .local ∨ (scope.names.lookup y.1 = some .cell ∧ ((cellsFrom (s.heap.objs.size + 1) scope.names []).lookup y.1).isSome = true) := fun ⟨n, v⟩ hy => by
    rcases S.par n (List.of_mem_zip hy).1 with q | q
    · exact .inl q
    · exact .inr ⟨q, PySem.W.cellsFrom_some _ _ _ (.inl q)⟩
  refine codeAny_call_function hr.depth (KX _ _ lk) rfl S.co S.gen rfl (PySem.W.codeRec_of KX hcd) (hb _ _ _ _ ?_)
  refine wpAny_newFunctionEnv_cells S.kind hkind fun env he s1 x => ?_
  subst he
  refine ⟨lim.keeps x.toInCall.keep, codeAny_func ?_⟩
  obtain ⟨t, ht, hq⟩ := hbody A outer s H vs Q E hot (hr.deeper _) hsp
  have I : Inv (cxH CX P w K mg base N qual scope f cdv A outer s H E p) [] (L2.start N vs) H s1 := inv_startH S hpin e0 hl r x
  refine wpAny_mono (ht.run [] s1 (L2.start N vs) H _ I hq) (fun fl s' hs => ?_) fun e s' hs => hs
  have fin : ∀ {σ' : L2.St} {H' : Hp} {v : V} {u : Value}, Inv (cxH CX P w K mg base N qual scope f cdv A outer s H E p) [] σ' H' s' → RelV v u → Q v H' → L2.CE outer P w H s Q u s' :=
    fun {σ' H' v u} J rv q => ⟨v, H', J.os, J.bare, J.base, J.hok, rv, q⟩
  cases fl with
  | ret u =>
    obtain ⟨v, σ', H', J, rv, q⟩ := hs
    exact fin J rv q
  | next =>
    obtain ⟨σ', H', J, q⟩ := hs
    exact fin (v := V.non) (u := Value.none) J rfl q
  | brk =>
    obtain ⟨_, _, _, q⟩ := hs
    exact False.elim q
  | cont =>
    obtain ⟨_, _, _, q⟩ := hs
    exact False.elim q

section
variable {X : Cx} {CX : CXT} {k : Nat} {f C : Addr} {fd : FuncData} {ps : List Str} {sp : Sp} {E : L2.St → XK} {x m : Str} {q pos apos : Pos} {e o : Expr} {es : List Expr} {ta : TE} {t : TA} {p : Addr × Obj}
theorem run_fnP {pins : List (Addr × Obj)} {σ : L2.St} {H : Hp} {s : Shared} {Q : VK} {us : List Value} {vs : List V} (F : FnP p X.prog X.w X.K X.mg X.base CX k f fd ps sp) (hr : RoomH k X.A) (hc : Hot1 X.A p ∧ p ∈ X.pn) (hb : Binds X.K fd ps []) (hx : PassesAt CX X σ (E σ))
    (I : Inv X pins σ H s) (r : Vals vs us) (h : sp vs H Q (E σ)) : wpAny (model X.prog X.w) X.A (call (.ref f) us) (EP X pins σ Q) X.xe s := by
  obtain ⟨hot, hp⟩ := hc
  have hl : us.length = ps.length := by rw [← r.length]; exact F.len _ _ _ _ h
  have b := hb s us I.kIn (by rw [List.append_nil]; exact hl)
  rw [List.append_nil] at b
  have P1 := I.pin p (List.mem_append_left _ hp)
  have hpin : PinOk X.stack H s p := ⟨P1.1, P1.2.1, fun hm => (List.mem_cons.mp (I.stkSub p.1 hm)).elim P1.2.2.1 P1.2.2.2.1, P1.2.2.2.2⟩
  refine wpAny_call (codeAny_mono (F.run X.A X.stack s H ⟨us, []⟩ us vs Q (E σ) hr hot hpin I.env0 b r h) fun r s' hq => ?_)
  cases r with
  | error e => exact hx pins H s e s' I hq
  | ok fl =>
    cases fl with
    | ret u => exact I.after hq
    | next => exact False.elim hq
    | brk => exact False.elim hq
    | cont => exact False.elim hq
theorem pe_callP (F : FnP p X.prog X.w X.K X.mg X.base CX k f fd ps sp) (hr : RoomH k X.A) (hc : Hot1 X.A p ∧ p ∈ X.pn) (hg : Gl X x) (hm : X.mg x = some (.ref f)) (hk : PySem.W.keepIn X.K (.ref f) = true) (hb : Binds X.K fd ps []) (hx : ∀ σ, PassesAt CX X σ (E σ))
    (ha : PA X (e :: es) t) (hdb : (x == ("__debug__" : Str)) = false := by decide) (he : starEach (e :: es) X.env = (false, eval e X.env) :: starEach es X.env := by rfl) (hpl : (backTo pos (starEach es X.env)).any (·.1) = false := by rfl) :
    PE X (.Call (.Name x q) (e :: es) [] pos) (tCallS sp E t) := by
  refine ⟨fun pins s σ H Q I h => ?_⟩
  refine wpAny_Call_Name_kw (ld_glob I hg hm ?_ hdb)
  refine PySem.W.callWith_K (h₀ := X.base) I.ok.mod.kin hk (thn (ha.run pos pins s σ H _ I h) fun us s1 ⟨vs, H1, I1, r, q⟩ => ⟨I1.kIn, ?_⟩) he hpl
  exact run_fnP F hr hc hb (hx σ) I1 r q
end
/-! isinstance of the exception -/
/-- of the handled exception's class: what the library asks -/
structure ExcC (K : PySem.W.Frag) (C : Addr) : Prop where
  cl : (PySem.W.clsIn K C).isSome = true
  ga : PySem.W.findIn K (.ref C) "__getattribute__" = some (some (.builtin "BaseException.__getattribute__"))
  gt : PySem.W.findIn K (.ref C) "__getattr__" = some none
  sub : PySem.W.subIn K (.ref C) (.type "BaseException") = some true
  at_ : PySem.W.findIn K (.ref C) "__class__" = some (some (.builtin "object.__class__"))
  n : PySem.W.specialIn K (.builtin "object.__class__") "__get__" = some (some (.builtin "getset_descriptor.__get__"))
  tk : PySem.W.takesIn K (.builtin "object.__class__") = some true
  m : PySem.W.mroIn K C (.type "object") = some true
/-- isinstance(e, c) of the handled exception p -/
def rIsP (K : PySem.W.Frag) (p : Addr × Obj) (C : Addr) : List V → Hp → VK → Prop := fun xs H Q => ∃ (c : V) (u : Value) (b : Bool), xs = [.ref p.1, c] ∧ ClsV c u ∧ PySem.W.kitOne K (.ref C) u = some b ∧ Q (.bl b) H
theorem call_isP {X : Cx} {p : Addr × Obj} {C : Addr} (hp : p ∈ X.pn) (hc : p.2.cls = .ref C) (hd : p.2.dict = none) (hn : PySem.W.notCls p.2 = true) (F : ExcC X.K C) : CallR X (.builtin "isinstance") (rIsP X.K p C) := by
  intro pins s σ H xs us Q I r h
  obtain ⟨c, u, b, rfl, k, e, q⟩ := h
  obtain ⟨u1, u2, rfl, r1, r2⟩ := vals2 r
  have e2 := k.eq r2
  subst e2
  obtain rfl : u1 = Value.ref p.1 := r1
  have hI : PySem.W.InstAt s.heap p.1 p.2 C none := ⟨(I.pin p (List.mem_append_left _ hp)).1, hc, hn, by rw [hd]; trivial⟩
  exact PySem.W.kia_one (PySem.W.kitx_exc F.cl F.ga F.gt F.sub F.at_ F.n F.tk F.m) I.kIn hI e (fun z => nomatch z) fun tk => ⟨.bl b, H, I.tok tk, rfl, q⟩
end PD
/-! the law's word for a refusal: names[flags.index(True)] -/
namespace PD
open PySem PySem.Spec PyProof.Rows L2 HotX L2H
/-- nothing is lost -/
def Fr (H H' : Hp) : Prop := ∀ b o, H b = some o → H' b = some o
theorem Fr.refl (H : Hp) : Fr H H := fun _ _ h => h
theorem Fr.trans {H H1 H2 : Hp} (a : Fr H H1) (b : Fr H1 H2) : Fr H H2 := fun c o h => b c o (a c o h)
theorem Fr.new {H H1 : Hp} {p : Addr} {o : HO} (a : Fr H H1) (h : H1 p = none) : Fr H (upd H1 p o) := fun c u e => by
  have e1 := a c u e
  rw [upd_ne (ne_of_none e1 h)]
  exact e1
theorem Fr.set {H H1 : Hp} {p : Addr} {o : HO} (a : Fr H H1) (h : H p = none) : Fr H (upd H1 p o) := fun c u e => by
  rw [upd_ne (ne_of_none e h)]
  exact a c u e
theorem Fr.dom {H H' : Hp} (a : Fr H H') (p : Addr) (e : H' p = none) : H p = none := by
  cases q : H p with
  | none => rfl
  | some o =>
    have z := a p o q
    rw [e] at z
    cases z
theorem Fr.gr {S : Sys} {G H H' : Hp} (a : Fr H H') (sb : Sb G H) : Gr S G H G H' :=
  ⟨fun b o e _ => a b o e, Xt.refl G, sb.up fun b o e _ => a b o e, fun _ _ h => h, a.dom, fun t => LamX.Tabs.ext t a⟩
/-! ### the text -/
def isiE (q : Nat → Pos) (i : Nat) (C : Str) : Expr := .Call (.Name "isinstance" (q i)) [.Name "_law_e" (q (i + 1)), .Name C (q (i + 2))] [] (q (i + 3))
def isiL (q : Nat → Pos) : Nat → List Str → List Expr
  | _, [] => []
  | i, C :: r => isiE q i C :: isiL q (i + 4) r
def strL (q : Nat → Pos) : Nat → List Str → List Expr
  | _, [] => []
  | i, C :: r => .Constant (.str C) 0 (q i) :: strL q (i + 1) r
def scC : Scope := { kind := .function, names := [(".0", .local), ("_law_flag", .local), ("int", .globalImplicit)], isGenerator := false, isCoroutine := false, more := [] }
def st1 (q : Nat → Pos) (Cs : List Str) : Stmt := .Assign [.Name "_law_flags" (q 0)] (.List (isiL q 1 Cs) (q (1 + 4 * Cs.length))) (q (2 + 4 * Cs.length))
def st2 (q : Nat → Pos) (Cs : List Str) : Stmt := .Assign [.Name "_law_flags" (q 0)] (.BinOp (.Name "_law_flags" (q 1)) .Add (.List (isiL q 2 Cs) (q (2 + 4 * Cs.length))) (q (3 + 4 * Cs.length))) (q (4 + 4 * Cs.length))
def st3 (q : Nat → Pos) (C : Str) : Stmt := .Expr (.Call (.Attribute (.Name "_law_flags" (q 0)) "append" (q 1)) [isiE q 2 C] [] (q 6)) (q 7)
def sumE (q : Nat → Pos) : Expr := .Call (.Name "sum" (q 0)) [.ListComp (.Call (.Name "int" (q 1)) [.Name "_law_flag" (q 2)] [] (q 3)) [⟨.Name "_law_flag" (q 4), .Name "_law_flags" (q 5), [], 0⟩] scC (q 6)] [] (q 7)
def st4 (q : Nat → Pos) : Stmt := .If (.BoolOp .Or [.Compare (sumE q) [.NotEq] [.Constant (.int 1) 0 (q 8)] (q 9), .UnaryOp .Not (isiE q 10 "ValueError") (q 14)] (q 15)) [.Return (some (.Constant (.str "other") 0 (q 16))) (q 17)] [] (q 18)
def st5 (q : Nat → Pos) (ns : List Str) : Stmt := .Assign [.Name "_law_names" (q 0)] (.List (strL q 1 ns) (q (1 + ns.length))) (q (2 + ns.length))
def st6 (q : Nat → Pos) : Stmt := .Return (some (.Subscript (.Name "_law_names" (q 0)) (.Call (.Attribute (.Name "_law_flags" (q 1)) "index" (q 2)) [.Constant (.bool true) 0 (q 3)] [] (q 4)) (q 5))) (q 6)
def NW : List Str := ["_law_e", "_law_flags", "_law_names", "_law_flag"]
/-- the context of the word's body; c: the exception's class -/
structure WC (X : Cx) (p : Addr × Obj) (C : Addr) (c : Str) (Cs : List Str) : Prop where
  N : X.N = NW
  le : X.env.scope.names.lookup ("_law_e" : Str) = some .local
  lf : X.env.scope.names.lookup ("_law_flags" : Str) = some .local
  ln : X.env.scope.names.lookup ("_law_names" : Str) = some .local
  gi : Gl X "isinstance"
  gs : Gl X "sum"
  gv : Gl X "ValueError"
  mi : X.mg "isinstance" = none
  ms : X.mg "sum" = none
  mv : X.mg "ValueError" = none
  mt : X.mg "int" = none
  hp : p ∈ X.pn
  hot : HotC X
  cls : p.2.cls = .ref C
  dict : p.2.dict = none
  no : PySem.W.notCls p.2 = true
  F : ExcC X.K C
  kv : PySem.W.kitOne X.K (.ref C) (.type "ValueError") = some true
  kc : ∀ x ∈ Cs, Gl X x ∧ (x == ("__debug__" : Str)) = false ∧ ∃ a, X.mg x = some (.ref a) ∧ PySem.W.kitOne X.K (.ref C) (.ref a) = some (decide (x = c))
section
variable {X : Cx} {p : Addr × Obj} {C : Addr} {c : Str} {Cs : List Str} {q : Nat → Pos}
theorem PE.mono {e : Expr} {t t' : TE} (h : PE X e t) (m : ∀ σ H Q, t' σ H Q → t σ H Q) : PE X e t' := ⟨fun pins s σ H Q I z => h.run pins s σ H Q I (m _ _ _ z)⟩
theorem PA.mono {e : List Expr} {t t' : TA} (h : PA X e t) (m : ∀ σ H Q, t' σ H Q → t σ H Q) : PA X e t' := ⟨fun pos pins s σ H Q I z => h.run pos pins s σ H Q I (m _ _ _ z)⟩
theorem PS.mono {e : Stmt} {t t' : TS} (h : PS X e t) (m : ∀ D σ H, t' D σ H → t D σ H) : PS X e t' := ⟨fun pins s σ H D I z => h.run pins s σ H D I (m _ _ _ z)⟩
theorem WC.nd (w : WC X p C c Cs) : X.N.Nodup := by rw [w.N]; decide
theorem pe_e {i : Nat} (w : WC X p C c Cs) : PE X (.Name "_law_e" (q i)) (tVar 0) := pe_var (by rw [w.N]; rfl) (.inl w.le)
theorem pe_isiC {x : Str} {i : Nat} (w : WC X p C c Cs) (hx : x ∈ Cs) : PE X (isiE q i x) (fun σ H Q => σ[0]? = some (some (.ref p.1)) ∧ Q (.bl (decide (x = c))) H) := by
  obtain ⟨g, d, a, m, k⟩ := w.kc x hx
  exact PE.mono (pe_callB (id := "isinstance") (call_isP w.hp w.cls w.dict w.no w.F) w.gi w.mi (by decide +kernel) (pa_cons (pe_e w) (pa_cons (pe_glob (v := .ref a) g m rfl d) pa_nil))) fun σ H Q ⟨h, z⟩ => ⟨_, h, .ref a, .ref a, _, rfl, .own a, k, z⟩
theorem pe_isiV {i : Nat} (w : WC X p C c Cs) : PE X (isiE q i "ValueError") (fun σ H Q => σ[0]? = some (some (.ref p.1)) ∧ Q (.bl true) H) :=
  PE.mono (pe_callB (id := "isinstance") (call_isP w.hp w.cls w.dict w.no w.F) w.gi w.mi (by decide +kernel) (pa_cons (pe_e w) (pa_cons (pe_bltn (v := .ty "ValueError") (u := .type "ValueError") w.gv w.mv (by decide +kernel) rfl) pa_nil))) fun σ H Q ⟨h, z⟩ => ⟨_, h, .ty "ValueError", .type "ValueError", _, rfl, .ty _, w.kv, z⟩
def flg (c : Str) (l : List Str) : List Bool := l.map fun x => decide (x = c)
theorem pa_isi (w : WC X p C c Cs) : ∀ (l : List Str) (i : Nat), (∀ x ∈ l, x ∈ Cs) → PA X (isiL q i l) (fun σ H Q => σ[0]? = some (some (.ref p.1)) ∧ Q ((flg c l).map .bl) H)
  | [], i, _ => PA.mono pa_nil fun σ H Q ⟨_, z⟩ => z
  | x :: l, i, h => PA.mono (pa_cons (pe_isiC w (h x (by simp))) (pa_isi w l (i + 4) fun y hy => h y (by simp [hy]))) fun σ H Q ⟨e, z⟩ => ⟨e, e, z⟩
theorem pa_str : ∀ (l : List Str) (i : Nat), PA X (strL q i l) (fun σ H Q => Q (l.map .str) H)
  | [], i => pa_nil
  | x :: l, i => pa_cons pe_str (pa_str l (i + 1))
theorem ps_1 (w : WC X p C c Cs) {l : List Str} (h : ∀ x ∈ l, x ∈ Cs) (hl : l.length < 100) :
    PS X (st1 q l) (fun D σ H => σ[0]? = some (some (.ref p.1)) ∧ ∀ a, H a = none → D.nx (σ.set 1 (some (.ref a))) (upd H a (.lst ((flg c l).map .bl)))) :=
  PS.mono (ps_set w.nd (i := 1) (by rw [w.N]; rfl) (.inl w.lf) (pe_lst (pa_isi w l 1 h)) rfl (.inr w.lf)) fun D σ H ⟨e, z⟩ => ⟨e, by simp only [flg, List.length_map]; rw [sizeLine_eq]; omega, z⟩
theorem ps_2 (w : WC X p C c Cs) {l : List Str} (h : ∀ x ∈ l, x ∈ Cs) (hl : l.length < 100) :
    PS X (st2 q l) (fun D σ H => σ[0]? = some (some (.ref p.1)) ∧ ∃ a bs, σ[1]? = some (some (.ref a)) ∧ H a = some (.lst bs) ∧ bs.length < 100 ∧ ∀ a2 a3, H a2 = none → upd H a2 (.lst ((flg c l).map .bl)) a3 = none → D.nx (σ.set 1 (some (.ref a3))) (upd (upd H a2 (.lst ((flg c l).map .bl))) a3 (.lst (bs ++ (flg c l).map .bl)))) :=
  PS.mono (ps_set w.nd (i := 1) (by rw [w.N]; rfl) (.inl w.lf) (pe_op op_cat (pe_var (i := 1) (by rw [w.N]; rfl) (.inl w.lf)) (pe_lst (pa_isi w l 2 h))) rfl (.inr w.lf)) fun D σ H ⟨e, a, bs, s, ha, hb, z⟩ =>
    ⟨.ref a, s, e, by simp only [flg, List.length_map]; rw [sizeLine_eq]; omega, fun a2 h2 => ⟨a, a2, bs, _, rfl, rfl, by rw [upd_ne (ne_of_none ha h2)]; exact ha, upd_same, by simp only [flg, List.length_map]; rw [sizeLine_eq]; omega, fun a3 h3 => z a2 a3 h2 h3⟩⟩
theorem ps_3 (w : WC X p C c Cs) {x : Str} (h : x ∈ Cs) (hl : ((q 1).endLine == (q 6).line) = true) :
    PS X (st3 q x) (fun D σ H => σ[0]? = some (some (.ref p.1)) ∧ ∃ a bs, σ[1]? = some (some (.ref a)) ∧ H a = some (.lst bs) ∧ bs.length < 200 ∧ D.nx σ (upd H a (.lst (bs ++ [.bl (decide (x = c))])))) :=
  PS.mono (ps_expr (ps_meth1 (pos := q 7) PySem.F.slot_list_append PySem.F.type_list_append mt_append (by rw [w.N]; rfl) (.inl w.lf) (by decide) (by decide) hl rfl (pe_isiC w h)) rfl) fun D σ H ⟨e, a, bs, s, ha, hb, z⟩ =>
    ⟨.ref a, s, .inl ⟨rfl, bs, SqL.of ha⟩, e, a, bs, _, rfl, rfl, ha, by rw [sizeLine_eq]; omega, z⟩
theorem ps_5 (w : WC X p C c Cs) {l : List Str} (hl : l.length < 100) :
    PS X (st5 q l) (fun D σ H => ∀ a, H a = none → D.nx (σ.set 2 (some (.ref a))) (upd H a (.lst (l.map .str)))) :=
  PS.mono (ps_set w.nd (i := 2) (by rw [w.N]; rfl) (.inl w.ln) (pe_lst (pa_str l 1)) rfl (.inr w.ln)) fun D σ H z => ⟨by simp only [List.length_map]; rw [sizeLine_eq]; omega, z⟩
def bI (bs : List Bool) : List Int := bs.map fun b => if b then 1 else 0
theorem wipe3 (σ : L2.St) (v : Option V) : wipe ((wipe σ [3]).set 3 v) [3] = wipe σ [3] := by
  show (((σ.set 3 none).set 3 v).set 3 none) = σ.set 3 none
  rw [List.set_set, List.set_set]
theorem pe_lcW (w : WC X p C c Cs) : PE X (.ListComp (.Call (.Name "int" (q 1)) [.Name "_law_flag" (q 2)] [] (q 3)) [⟨.Name "_law_flag" (q 4), .Name "_law_flags" (q 5), [], 0⟩] scC (q 6))
    (fun σ H Q => ∃ a bs, σ[1]? = some (some (.ref a)) ∧ H a = some (.lst (bs.map .bl)) ∧ σ.length = 4 ∧ bs.length < 300 ∧ ∀ D, H D = none → Q (.ref D) (upd H D (.lst ((bI bs).map .int)))) := by
  have lc := pe_lcH (X := X) (pos := q 6) (elt := .Call (.Name "int" (q 1)) [.Name "_law_flag" (q 2)] [] (q 3)) (tg := .Name "_law_flag" (q 4)) (iter := .Name "_law_flags" (q 5)) (ifs := []) (scope := scC) (own := [("_law_flag", 3)]) (g := gName 3) (tt := tYes)
    (te := tCB _ (tCons (tVar 3) tNil)) w.hot w.nd (pi_listH (pe_var (i := 1) (by rw [w.N]; rfl) (.inl w.lf)))
    ⟨rfl, by decide, by rw [w.N]; decide, fun y hy e => absurd e ((by decide : ∀ y ∈ scC.names, y.2 ≠ .free) y hy), by rw [w.N]; decide⟩
    (fun s H C cl fp => pg_name w.nd (by show X.N[3]? = _; rw [w.N]; rfl) (.inl rfl))
    (fun s H C cl fp => pts_nil)
    (fun s H C cl fp => pe_callTy (T := "int") call_int1 rfl w.mt (by decide +kernel) (pa_cons (pe_var (i := 3) (by show X.N[3]? = _; rw [w.N]; rfl) (.inl rfl)) pa_nil))
    (fun _ => rfl)
  refine PE.mono lc fun σ H Q ⟨a, bs, s1, ha, hl, hb, z⟩ => ?_
  refine ⟨.ref a, s1, a, rfl, ⟨_, SqL.of ha⟩, fun D hD => ?_⟩
  have haD : ∀ o, upd H D o a = some (.lst (bs.map .bl)) := fun o => by
    rw [upd_ne (ne_of_none ha hD)]
    exact ha
  refine ⟨fun i m H' => i + m = bs.length ∧ H' = upd H D (.lst ((bI (bs.take i)).map .int)), ⟨bs.length, by omega, rfl⟩, ?_⟩
  rintro i m H' ⟨e1, e2⟩
  subst e2
  rcases Nat.lt_or_ge i bs.length with hi | hi
  · refine .inr ⟨⟨_, _, SqL.of (haD _), by rw [List.getElem?_map, List.getElem?_eq_getElem hi]; rfl⟩, fun H' => H' = upd H D (.lst ((bI (bs.take (i + 1))).map .int)), fun H' e => ⟨m - 1, by omega, by omega, e⟩, ?_⟩
    rintro x H'' ⟨e3, hx⟩
    subst e3
    have e4 := hx _ (SqL.of (haD _))
    rw [List.getElem?_map, List.getElem?_eq_getElem hi] at e4
    cases e4
    refine ⟨wipe3 _ _, ?_⟩
    have e5 : ((wipe σ [3]).set 3 (some (V.bl bs[i])))[3]? = some (some (V.bl bs[i])) := List.getElem?_set_self (by rw [wipe_length]; omega)
    refine ⟨_, e5, .inr ⟨bs[i], rfl, ?_⟩⟩
    refine ⟨_, upd_same, by simp only [bI, List.length_map, List.length_take]; rw [sizeLine_eq]; omega, ?_⟩
    rw [upd_upd]
    congr 1
    have e6 : bI (bs.take (i + 1)) = bI (bs.take i) ++ [if bs[i] then 1 else 0] := by
      rw [List.take_add_one, List.getElem?_eq_getElem hi]
      unfold bI
      rw [List.map_append]
      rfl
    rw [e6, List.map_append]
    rfl
  · refine .inl ⟨⟨_, SqL.of (haD _), by rw [List.length_map]; exact hi⟩, ?_⟩
    rw [List.take_of_length_le hi]
    exact z D hD
theorem pe_sumW (w : WC X p C c Cs) : PE X (sumE q)
    (fun σ H Q => ∃ a bs, σ[1]? = some (some (.ref a)) ∧ H a = some (.lst (bs.map .bl)) ∧ σ.length = 4 ∧ bs.length < 300 ∧ ∀ D, H D = none → Q (.int (bI bs).sum) (upd H D (.lst ((bI bs).map .int)))) :=
  PE.mono (pe_callB (id := "sum") (cr_sumH w.hot) w.gs w.ms (by decide +kernel) (pa_cons (pe_lcW w) pa_nil)) fun σ H Q ⟨a, bs, s, ha, hl, hb, z⟩ => ⟨a, bs, s, ha, hl, hb, fun D hD => ⟨D, _, rfl, SqL.of upd_same, z D hD⟩⟩
theorem ps_4 (w : WC X p C c Cs) : PS X (st4 q) (fun D σ H => σ[0]? = some (some (.ref p.1)) ∧ ∃ a bs, σ[1]? = some (some (.ref a)) ∧ H a = some (.lst (bs.map .bl)) ∧ σ.length = 4 ∧ bs.length < 300 ∧ (bI bs).sum = 1 ∧ ∀ b, H b = none → D.nx σ (upd H b (.lst ((bI bs).map .int)))) :=
  PS.mono (ps_if (PW.pt (pw_or (pt_cmpR op_ne (pe_sumW w) pe_int rfl) (pw_or1 (pt_not (pt_val (pe_isiV w)))))) (pss_one (ps_ret pe_str)) pss_nil) fun D σ H ⟨e, a, bs, s, ha, hl, hb, h1, z⟩ => by
    refine ⟨a, bs, s, ha, hl, hb, fun b hb => ?_⟩
    refine ⟨rfl, _, rfl, ?_⟩
    rw [h1]
    have hd : (!decide (V.int 1 = V.int 1)) = false := by decide
    rw [hd]
    exact ⟨e, true, rfl, z b hb⟩
theorem atI_nat {α : Type} (xs : List α) (j : Nat) (h : j < xs.length) : atI xs (j : Int) = xs[j]? := by
  unfold atI ixN
  rw [if_pos (by omega)]
  simp [h]
theorem ps_6 (w : WC X p C c Cs) (hl : ((q 2).endLine == (q 4).line) = true) :
    PS X (st6 q) (fun D σ H => ∃ (a b : Addr) (bs : List Bool) (ns : List Str) (j : Nat) (z : Str), σ[1]? = some (some (.ref a)) ∧ H a = some (.lst (bs.map .bl)) ∧ σ[2]? = some (some (.ref b)) ∧ H b = some (.lst (ns.map .str)) ∧ bs[j]? = some true ∧ (∀ m, m < j → bs[m]? = some false) ∧ ns[j]? = some z ∧ D.rt (.str z) H) := by
  refine PS.mono (ps_ret (pe_ix ix_list (pe_var (i := 2) (by rw [w.N]; rfl) (.inl w.ln)) (pe_bm PySem.F.plainAttrs_list PySem.F.slot_list_index PySem.F.type_list_index mt_index (pe_var (i := 1) (by rw [w.N]; rfl) (.inl w.lf)) (pa_cons pe_bl pa_nil) rfl rfl hl rfl rfl) (fun _ _ => rfl))) ?_
  rintro D σ H ⟨a, b, bs, ns, j, z, s1, ha, s2, hb, hj, hm, hn, q⟩
  refine ⟨.ref b, s2, .ref a, s1, .inl ⟨rfl, _, SqL.of ha⟩, a, _, .bl true, j, .bl true, rfl, rfl, SqL.of ha, rfl, List.all_eq_true.mpr fun v hv => ?_, by rw [List.getElem?_map, hj]; rfl, rfl, fun m z' h1 h2 => ?_, b, _, _, .str z, rfl, rfl, SqL.of hb, ?_, q⟩
  · obtain ⟨y, _, e⟩ := List.mem_map.mp hv
    rw [← e]
    rfl
  · rw [List.getElem?_map, hm m h1] at h2
    cases h2
    rfl
  · have h3 := (List.getElem?_eq_some_iff.mp hn).1
    rw [atI_nat _ _ (by rw [List.length_map]; exact h3), List.getElem?_map, hn]
    rfl
/-- c stands once among the names -/
structure WF (ns : List Str) (c : Str) : Prop where
  sum : (bI (flg c ns)).sum = 1
  ix : ∃ j : Nat, (flg c ns)[j]? = some true ∧ (∀ m : Nat, m < j → (flg c ns)[m]? = some false) ∧ ns[j]? = some c
def wfB (ns : List Str) (c : Str) : Bool := decide ((bI (flg c ns)).sum = 1) && (decide ((flg c ns)[ns.findIdx (· == c)]? = some true) && ((List.range (ns.findIdx (· == c))).all (fun m => decide ((flg c ns)[m]? = some false)) && decide (ns[ns.findIdx (· == c)]? = some c)))
theorem wf_by {ns : List Str} {c : Str} (h : wfB ns c = true) : WF ns c := by
  unfold wfB at h
  simp only [Bool.and_eq_true, decide_eq_true_eq, List.all_eq_true, List.mem_range] at h
  exact ⟨h.1, _, h.2.1, h.2.2.1, h.2.2.2⟩
theorem flg_app (c : Str) (l r : List Str) : flg c (l ++ r) = flg c l ++ flg c r := List.map_append ..
variable {q1 q2 q3 q4 q5 q6 : Nat → Pos} {l1 l2 ns : List Str} {x : Str}
/-- from the flags on -/
theorem pss_wordT (w : WC X p C c Cs) (f : WF ns c) (hl : ns.length < 100) (h6 : ((q6 2).endLine == (q6 4).line) = true) :
    PSs X [st4 q4, st5 q5 ns, st6 q6] (fun D σ H => σ[0]? = some (some (.ref p.1)) ∧ σ.length = 4 ∧ ∃ a, σ[1]? = some (some (.ref a)) ∧ H a = some (.lst ((flg c ns).map .bl)) ∧ ∀ H', Fr H H' → D.rt (.str c) H') := by
  refine ⟨fun pins s σ H D I h => (pss_cons (ps_4 (q := q4) w) (pss_cons (ps_5 (q := q5) w hl) (pss_one (ps_6 (q := q6) w h6)))).run pins s σ H D I ?_⟩
  obtain ⟨e, hs, a, s1, ha, z⟩ := h
  obtain ⟨j, j1, j2, j3⟩ := f.ix
  refine ⟨e, a, flg c ns, s1, ha, hs, by unfold flg; rw [List.length_map]; omega, f.sum, fun b hb => ?_⟩
  intro d hd
  have ha1 : upd H b (.lst ((bI (flg c ns)).map .int)) a = some (.lst ((flg c ns).map .bl)) := by rw [upd_ne (ne_of_none ha hb)]; exact ha
  refine ⟨a, d, flg c ns, ns, j, c, by rw [List.getElem?_set_ne (by decide)]; exact s1, by rw [upd_ne (ne_of_none ha1 hd)]; exact ha1, List.getElem?_set_self (by omega), upd_same, j1, j2, j3, ?_⟩
  exact z _ (((Fr.refl H).new hb).new hd)
theorem pss_word7 (w : WC X p C c Cs) (h1 : ∀ x ∈ l1, x ∈ Cs) (h2 : ∀ x ∈ l2, x ∈ Cs) (k1 : l1.length < 40) (k2 : l2.length < 40) (f : WF (l1 ++ l2) c) (h6 : ((q6 2).endLine == (q6 4).line) = true) :
    PSs X [st1 q1 l1, st2 q2 l2, st4 q4, st5 q5 (l1 ++ l2), st6 q6] (fun D σ H => σ[0]? = some (some (.ref p.1)) ∧ σ.length = 4 ∧ ∀ H', Fr H H' → D.rt (.str c) H') := by
  refine ⟨fun pins s σ H D I h => (pss_cons (ps_1 (q := q1) w h1 (by omega)) (pss_cons (ps_2 (q := q2) w h2 (by omega)) (pss_wordT (q4 := q4) (q5 := q5) w f (by rw [List.length_append]; omega) h6))).run pins s σ H D I ?_⟩
  obtain ⟨e, hs, z⟩ := h
  refine ⟨e, fun a ha => ⟨by rw [List.getElem?_set_ne (by decide)]; exact e, a, _, List.getElem?_set_self (by omega), upd_same, by unfold flg; rw [List.length_map, List.length_map]; omega, fun a2 a3 n2 n3 => ?_⟩⟩
  refine ⟨by rw [List.getElem?_set_ne (by decide), List.getElem?_set_ne (by decide)]; exact e, by rw [List.length_set, List.length_set]; exact hs, a3, List.getElem?_set_self (by rw [List.length_set]; omega), by rw [upd_same, flg_app, List.map_append], fun H' fr => z H' ?_⟩
  exact ((((Fr.refl H).new ha).new n2).new n3).trans fr
theorem pss_word9 (w : WC X p C c Cs) (h1 : ∀ x ∈ l1, x ∈ Cs) (h2 : ∀ x ∈ l2, x ∈ Cs) (h3 : x ∈ Cs) (k1 : l1.length < 40) (k2 : l2.length < 40) (f : WF (l1 ++ l2 ++ [x]) c) (hm : ((q3 1).endLine == (q3 6).line) = true) (h6 : ((q6 2).endLine == (q6 4).line) = true) :
    PSs X [st1 q1 l1, st2 q2 l2, st3 q3 x, st4 q4, st5 q5 (l1 ++ l2 ++ [x]), st6 q6] (fun D σ H => σ[0]? = some (some (.ref p.1)) ∧ σ.length = 4 ∧ ∀ H', Fr H H' → D.rt (.str c) H') := by
  refine ⟨fun pins s σ H D I h => (pss_cons (ps_1 (q := q1) w h1 (by omega)) (pss_cons (ps_2 (q := q2) w h2 (by omega)) (pss_cons (ps_3 (q := q3) w h3 hm) (pss_wordT (q4 := q4) (q5 := q5) w f (by rw [List.length_append, List.length_append, List.length_singleton]; omega) h6)))).run pins s σ H D I ?_⟩
  obtain ⟨e, hs, z⟩ := h
  refine ⟨e, fun a ha => ⟨by rw [List.getElem?_set_ne (by decide)]; exact e, a, _, List.getElem?_set_self (by omega), upd_same, by unfold flg; rw [List.length_map, List.length_map]; omega, fun a2 a3 n2 n3 => ?_⟩⟩
  have e2 : ((σ.set 1 (some (V.ref a))).set 1 (some (V.ref a3)))[0]? = some (some (V.ref p.1)) := by rw [List.getElem?_set_ne (by decide), List.getElem?_set_ne (by decide)]; exact e
  have e3 : ((σ.set 1 (some (V.ref a))).set 1 (some (V.ref a3)))[1]? = some (some (V.ref a3)) := List.getElem?_set_self (by rw [List.length_set]; omega)
  refine ⟨e2, a3, _, e3, upd_same, by simp only [flg, List.length_append, List.length_map]; omega, ?_⟩
  refine ⟨e2, by rw [List.length_set, List.length_set]; exact hs, a3, e3, by rw [upd_same, flg_app, flg_app, List.map_append, List.map_append]; rfl, fun H' fr => z H' ?_⟩
  have f2 : Fr H (upd (upd H a (HO.lst ((flg c l1).map V.bl))) a2 (.lst ((flg c l2).map .bl))) := ((Fr.refl H).new ha).new n2
  exact ((f2.new n3).set (f2.dom a3 n3)).trans fr
end
end PD
/-! a lambda handed to the law's told -/
namespace LamX
open PySem PySem.Spec PyProof.Rows L2
section
variable {X : Cx} {pins : List (Addr × Obj)} {σ : L2.St} {H : Hp} {s : Shared}
theorem lam_make3 {T : List (Addr × Str)} {c P : Addr} {params : Arguments} {body : Expr} {scope : Scope} {pos : Pos} {E : Value → Shared → Prop} {Q : Value → Shared → Prop} (I : Inv X pins σ H s) (TB : TabB X.base X.mg c P) (hcode : X.env.code = .ref c)
    (hm : (P, X.env.qual ++ "<lambda>") ∈ T) (hu : ∀ p ∈ T, p.1 = P → p.2 = X.env.qual ++ "<lambda>") (hT : Tabs T H) (hdef : defaultsOf params X.env = ([], [])) (hfree : ∀ y ∈ scope.names, y.2 = .free → ∃ c, X.env.cells.lookup y.1 = some c)
    (h : ∀ (f c' : Addr) (pm ctv : Value) (H1 : Hp) (s' : Shared), Inv X pins σ H1 s' → ExtN H H1 → Tabs T H1 →
      s'.heap.get? f = some (PySem.W.kla_obj "<lambda>" (X.env.qual ++ "<lambda>") params body scope (cloFrom X.env.cells scope.names []) pm c' ctv) → H1 f = none → f ∉ frs X.stack → H1 c' = some (CodeO c' (X.env.qual ++ "<lambda>")) → (∀ p, H1 p = none → H p = none) → Q (.ref f) s') :
    wpAny (model X.prog X.w) X.A (eval (.Lambda params body scope pos) X.env) Q E s := by
  obtain ⟨ps, hP, ht, ha⟩ := hT _ hm
  refine PySem.W.kla_eval hdef ?_
  have bP : s.heap.BuiltinsAt X.mg P := TB.bm.keeps I.bk
  have hP' : s.heap.get? P = some { cls := .none, data := .fields ps } := I.hok P _ hP
  have nofr : ∀ f, s.heap.objs.size ≤ f → f ∉ frs X.stack := fun f hf z => by
    rcases List.mem_cons.mp (I.stkSub _ z) with e | e
    · have h1 := I.lt
      rw [← e] at h1
      exact Nat.lt_irrefl _ (Nat.lt_of_lt_of_le h1 hf)
    · exact I.nofs hf e
  cases hc : codeAmong pos ps.toList with
  | none =>
    refine PySem.W.kla_makeFunction (mg := X.mg) (c := c) (P := P) (ps := ps) (closure_ok hfree) I.ok.glob (I.mod.glob.keeps I.bk) hcode (TB.code.keeps I.bk) hP' ht hc TB.gP bP fun c' ctv h' tk hx hge hlt hrec htb => ?_
    obtain ⟨c2, oc, vs, t, e2, hoc, hd, hv⟩ := hrec
    cases e2
    have hsz : s.heap.objs.size ≤ h'.objs.size := Nat.le_trans hge (Nat.le_of_lt hlt)
    have nC : H c' = none := I.hok.fresh hge
    have I1 := inv_table (t' := tk) (more := #[rawInt pos.line, rawInt pos.col, .ref c']) (h' := h'.push (PySem.W.kla_obj "<lambda>" (X.env.qual ++ "<lambda>") params body scope (cloFrom X.env.cells scope.names []) ((X.mg "__name__").getD .none) c' ctv)) I hP
      (fun b o hb e => Heap.get?_push_of_some _ (hx b o hb e)) (Heap.get?_push_of_some _ htb) hge ⟨oc, vs, t, Heap.get?_push_of_some _ hoc, hd, hv⟩
    have hE : ExtN H (upd (upd H P (.tbl (ps ++ #[rawInt pos.line, rawInt pos.col, .ref c']))) c' (CodeO c' (X.env.qual ++ "<lambda>"))) := fun b o e n => by
      rw [upd_ne (ne_of_none e nC), upd_ne (fun z => n ps (Option.some.inj (e.symm.trans (by rw [z]; exact hP))))]
      exact e
    have eL : (ps ++ #[rawInt pos.line, rawInt pos.col, .ref c']).toList = ps.toList ++ [rawInt pos.line, rawInt pos.col, .ref c'] := by simp
    refine h h'.objs.size c' ((X.mg "__name__").getD .none) ctv _ _ I1 hE (fun p hp => ?_) (Heap.get?_push_size _ rfl) ?_ (nofr _ hsz) upd_same (fun p hp => ?_)
    · by_cases hb : p.1 = P
      · rw [hu p hp hb, hb]
        refine ⟨_, by rw [upd_ne (ne_of_none hP nC), upd_same], by rw [eL]; exact PySem.TriplesOk_snoc _ _ _ _ ht, fun p' cv hcv => ?_⟩
        rw [eL] at hcv
        rcases among_app _ ht hcv with z | z
        · obtain ⟨c0, e1, e2⟩ := ha p' cv z
          exact ⟨c0, e1, hE _ _ e2 codeO_ne⟩
        · exact ⟨c', z, upd_same⟩
      · obtain ⟨ps', a1, a2, a3⟩ := hT p hp
        refine ⟨ps', by rw [upd_ne (ne_of_none a1 nC), upd_ne hb]; exact a1, a2, fun p' cv hcv => ?_⟩
        obtain ⟨c0, e1, e2⟩ := a3 p' cv hcv
        exact ⟨c0, e1, hE _ _ e2 codeO_ne⟩
    · have n1 : h'.objs.size ≠ c' := Nat.ne_of_gt hlt
      have n2 : h'.objs.size ≠ P := Nat.ne_of_gt (Nat.lt_of_lt_of_le (Heap.lt_size hP') hsz)
      rw [upd_ne n1, upd_ne n2]
      exact I.hok.fresh hsz
    · by_cases e1 : p = c'
      · rw [e1]; exact nC
      · rw [upd_ne e1] at hp
        by_cases e2 : p = P
        · rw [e2, upd_same] at hp
          cases hp
        · rwa [upd_ne e2] at hp
  | some cv =>
    obtain ⟨c', e, hco⟩ := ha pos cv hc
    subst e
    refine PySem.W.kla_makeFunctionHit (mg := X.mg) (c := c) (P := P) (ps := ps) (closure_ok hfree) I.ok.glob (I.mod.glob.keeps I.bk) hcode (TB.code.keeps I.bk) hP' ht hc bP fun ctv h' tk hx hsz => ?_
    have I1 : Inv X pins σ H { s with heap := h'.push (PySem.W.kla_obj "<lambda>" (X.env.qual ++ "<lambda>") params body scope (cloFrom X.env.cells scope.names []) ((X.mg "__name__").getD .none) c' ctv), toks := tk } := I.kept fun b o e => Heap.get?_push_of_some _ (hx b o e)
    exact h h'.objs.size c' ((X.mg "__name__").getD .none) ctv H _ I1 (ExtN.refl H) hT (Heap.get?_push_size _ rfl) (I.hok.fresh hsz) (nofr _ hsz) hco (fun _ z => z)
end
/-- the lambda's body's context; exceptions lie as L2N tells -/
abbrev lamCxN (X : Cx) (A : Around) (outer : List Env) (s : Shared) (H : Hp) (E : XK) (scope : Scope) (f c' : Addr) : Cx :=
  (lamCx X A outer s H E scope f c').wish fun e s' => wpAny (model X.prog X.w) (A.deeper (lamEnv X scope s.heap.objs.size f c')) (leaving (lamEnv X scope s.heap.objs.size f c') e) (fun _ s'' => L2N.CX X.prog X.w outer H s E e s'') (fun e' s'' => L2N.CX X.prog X.w outer H s E e' s'') s'
section
variable {X : Cx} {pins : List (Addr × Obj)} {σ : L2.St} {H HZ : Hp} {s s1 : Shared}
theorem pe_actN {CXg : CXT} {Eg : XK} {Ng : List Str} {qg : Str} {sg : Scope} {g f c' : Addr} {cdg pm ctv : Value} {params : Arguments} {body : Expr} {scope : Scope} {k i : Nat} {a : Str} {pn : List (Addr × Obj)} {xe : Value → Shared → Prop} {W : WX} {E : XK} {tb : TE} {p1 p2 : Pos}
    (I : Inv X pins σ H s) (L : LamS X.env.scope scope) (hf : s.heap.get? f = some (PySem.W.kla_obj "<lambda>" (X.env.qual ++ "<lambda>") params body scope (cloFrom X.env.cells scope.names []) pm c' ctv)) (hfn : H f = none) (hfr : f ∉ frs X.stack)
    (hbind : bindArgs (PySem.W.kla_fn "<lambda>" (X.env.qual ++ "<lambda>") params body scope (cloFrom X.env.cells scope.names []) pm (.ref c') ctv) ⟨[], []⟩ = pure [])
    (tk : L2N.Takes ((cxOf CXg X.prog X.w X.K X.mg X.base Ng qg sg g cdg X.A X.stack s H Eg).tr pn xe) W) (hW : ∀ cls d σ' H', E cls d H' → W cls d σ' H') (hr : Room (k + 1) (X.A.deeper (envOfC qg sg s.heap.objs.size g cdg)))
    (hbody : ∀ (A : Around) (outer : List Env) (s : Shared) (H : Hp), Room k (A.deeper (lamEnv X scope s.heap.objs.size f c')) → PE (lamCxN X A outer s H E scope f c') body tb)
    (hN : Ng[i]? = some a) (hv : Vis sg a) (hd : (a == ("__debug__" : Str)) = false := by decide) (hcd : (a == ("__classdict__" : Str)) = false := by decide) :
    PE ((cxOf CXg X.prog X.w X.K X.mg X.base Ng qg sg g cdg X.A X.stack s H Eg).tr pn xe) (.Call (.Name a p1) [] [] p2)
      (fun σZ HZ Q => σZ[i]? = some (some (.ref f)) ∧ HZ c' = some (CodeO c' (X.env.qual ++ "<lambda>")) ∧ tb σ HZ Q) := by
  refine ⟨fun pinsZ sZ σZ HZ Q IZ h => ?_⟩
  obtain ⟨hs, hc, ht⟩ := h
  refine wpAny_Call_Name_kw (thn ((pe_var (pos := p1) (i := i) hN hv hd hcd).run pinsZ sZ σZ HZ (fun v H1 => v = .ref f ∧ H1 = HZ) IZ ⟨.ref f, hs, rfl, rfl⟩) fun u s1 ⟨v, H1, I1, r1, q1⟩ => ?_)
  obtain ⟨ev, eH⟩ := q1
  subst ev
  rw [eH] at I1
  obtain rfl : u = Value.ref f := r1
  have of1 : s1.heap.get? f = some (PySem.W.kla_obj "<lambda>" (X.env.qual ++ "<lambda>") params body scope (cloFrom X.env.cells scope.names []) pm c' ctv) := I1.base.keep f _ hf hfn hfr (fun z => nomatch (show f ∈ ([] : List Addr) from z))
  refine PySem.W.callWith_F0 ⟨_, _, _, _, of1⟩ ?_
  have un : Un (frs X.stack) [] H HZ s.heap s1.heap := I1.base
  obtain ⟨⟨oc, vs, t, hoc, hdc, hvc⟩, _, _⟩ := I1.hok c' _ hc
  have rc : codeAny (model X.prog X.w) (X.A.deeper (envOfC qg sg s.heap.objs.size g cdg)) (.call (.ref f) ⟨[], []⟩) (CR (L2N.CX X.prog X.w) (envOfC qg sg s.heap.objs.size g cdg :: X.stack) X.prog X.w HZ s1 Q E) s1 := by
    refine PySem.W.kla_callFunE hr.depth of1 rfl L.co L.gen rfl ⟨c', oc, vs, t, rfl, hoc, hdc, hvc⟩ ?_
    rw [hbind]
    refine wpAny_pure (wpAny_newFunctionEnv (fun y hy => (L.own y hy).2) (fun y hy => absurd hy (by simp)) (fun h₁ hns hsb => ⟨I1.nolimit.fresh _ hsb, ?_⟩) L.kind)
    show codeAny _ _ (.expr body (lamEnv X scope s1.heap.objs.size f c')) _ _
    have kp : ∀ b o, s1.heap.get? b = some o → h₁.get? b = some o := fun b o e => hsb.extBut b o (Nat.ne_of_lt (Heap.lt_size e)) (Heap.get?_push_of_some _ e)
    have J : Inv (lamCxN X (X.A.deeper (envOfC qg sg s.heap.objs.size g cdg)) (envOfC qg sg s.heap.objs.size g cdg :: X.stack) s1 HZ E scope f c') [] σ HZ { s1 with heap := h₁, toks := s1.toks + ([] : List (Str × Value)).length } :=
      (lam_start2 I L I1.env0 hr.hd un hns kp).wish _
    refine PySem.W.kla_codeExpr (wpAny_mono ((hbody _ _ s1 HZ (hr.deeper _)).run [] _ _ HZ Q J ht) (fun v s' hq => ?_) fun e s' hq => hq)
    obtain ⟨w', H', J', rv, q⟩ := hq
    exact ⟨w', H', J'.os, J'.bare, J'.base, J'.hok, rv, q⟩
  have hx : Passes (L2N.CX X.prog X.w) ((cxOf CXg X.prog X.w X.K X.mg X.base Ng qg sg g cdg X.A X.stack s H Eg).tr pn xe) E := L2N.passes_call tk hW
  refine wpAny_call (codeAny_mono rc fun r s' hq => ?_)
  cases r with
  | error e => exact hx pinsZ σZ HZ s1 e s' I1 hq
  | ok fl =>
    cases fl with
    | ret u => exact I1.after hq
    | next => exact False.elim hq
    | brk => exact False.elim hq
    | cont => exact False.elim hq
end
end LamX
/-! a text's reading, by a function of the text -/
namespace PD
open PySem PySem.Spec PyProof.Rows L2
def posN : List Str → Str → Nat → Option Nat
  | [], _, _ => none
  | y :: ys, x, n => if y = x then some n else posN ys x (n + 1)
theorem posN_ok : ∀ {ys : List Str} {x : Str} {n i : Nat}, posN ys x n = some i → n ≤ i ∧ ys[i - n]? = some x
  | [], _, _, _, h => by cases h
  | y :: ys, x, n, i, h => by
    unfold posN at h
    split at h
    · rename_i e
      cases h
      subst e
      exact ⟨Nat.le_refl _, by simp⟩
    · obtain ⟨h1, h2⟩ := posN_ok h
      refine ⟨by omega, ?_⟩
      have e : i - n = (i - (n + 1)) + 1 := by omega
      rw [e]
      simpa using h2
def pos0 (N : List Str) (x : Str) : Option Nat := posN N x 0
theorem pos0_ok {N : List Str} {x : Str} {i : Nat} (h : pos0 N x = some i) : N[i]? = some x := by
  have h2 := (posN_ok h).2
  simpa using h2
def visB (sc : SC) (x : Str) : Bool := (match sc.sc.names.lookup x with
  | some .local => true
  | some .cell => true
  | some .free => true
  | _ => false) && (!(x == ("__debug__" : Str)) && !(x == ("__classdict__" : Str)))
theorem visB_ok {sc : SC} {x : Str} (h : visB sc x = true) : Vis sc.sc x ∧ (x == ("__debug__" : Str)) = false ∧ (x == ("__classdict__" : Str)) = false := by
  unfold visB at h
  rw [Bool.and_eq_true, Bool.and_eq_true, Bool.not_eq_true', Bool.not_eq_true'] at h
  refine ⟨?_, h.2⟩
  have h1 := h.1
  unfold Vis
  split at h1
  · rename_i e; exact .inl e
  · rename_i e; exact .inr (.inl e)
  · rename_i e; exact .inr (.inr e)
  · cases h1
structure Rec where
  E : SC → Expr → Option EF
  T : SC → Expr → Option TF
/-- a built-in's name that nobody took -/
def bltB (cc : CC) (sc : SC) (x : Str) : Bool := glB sc x && (cc.fns.all (fun e => !(e.x == x)) && decide (x ∈ bltNames))
def compA (r : Expr → Option EF) : List Expr → Option AF
  | [] => some aNil
  | e :: es => if notStar e then (match r e, compA r es with
    | some f, some g => some (aCons f g)
    | _, _ => none) else none
def frzR (r : Expr → Option EF) (e : Expr) : Option EF := (r e).map eFz
def binS : Operator → Option (L → L → M L)
  | .Add => some opAdd
  | .Sub => some opSub
  | .Mult => some opMul
  | .FloorDiv => some opDiv
  | .Mod => some opMod
  | .Pow => some opPow
  | _ => none
def opIs (neg : Bool) (a b : L) : M L := match b with
  | .d .none => opIsN neg a
  | _ => opIsB neg a b
def cmpS : CmpOp → Option (L → L → M L)
  | .Eq => some (opEq false)
  | .NotEq => some (opEq true)
  | .Lt => some opLt
  | .LtE => some opLe
  | .Gt => some opGt
  | .GtE => some opGe
  | .In => some (opIn false)
  | .NotIn => some (opIn true)
  | .Is => some (opIs false)
  | .IsNot => some (opIs true)
def tyNames : List Str := ["int", "bool", "str", "list", "tuple"]
def tyOfD : D → String
  | .none => "NoneType"
  | .bool _ => "bool"
  | .int _ => "int"
  | .str _ => "str"
  | .list _ => "list"
  | .tuple _ => "tuple"
  | .dict _ => "dict"
def tyStr (T : Str) : String := if T = "int" then "int" else if T = "bool" then "bool" else if T = "str" then "str" else if T = "list" then "list" else "tuple"
def isiS (T s : String) : Bool := decide (s = T) || (decide (s = "bool") && decide (T = "int"))
def isiD (T : Str) (d : D) : Bool := isiS (tyStr T) (tyOfD d)
def opIsi (T : Str) (a : L) : M L := match a.rd with
  | .ok (.dict _) => .stuck
  | .ok d => okB (isiD T d)
  | _ => .stuck
def lstRg : IF → EF := fun g env => (g env).bind fun xs => if xs.length ≤ cap then .ok (.fr xs) else .stuck
def tupRg : IF → EF := fun g env => (g env).bind fun xs => if xs.length ≤ cap then .ok (.d (.tuple xs)) else .stuck
def isRange : Expr → Bool
  | .Call (.Name x _) _ [] _ => x == ("range" : Str)
  | _ => false
def rgA (r : Expr → Option EF) : Expr → Option IF
  | .Call (.Name _ _) [a] [] _ => if notStar a then (r a).map iR1 else none
  | .Call (.Name _ _) [a, b] [] _ => if notStar a && notStar b then (match r a, r b with
    | some f, some g => some (iR2 f g)
    | _, _ => none) else none
  | _ => none
def biOp (x : Str) : Option (List L → M L) :=
  if x = "len" then some bLen
  else if x = "int" then some bInt
  else if x = "list" then some bList
  else if x = "tuple" then some bTuple
  else if x = "sum" then some bSum2
  else if x = "all" then some bAll
  else if x = "any" then some bAny
  else if x = "max" then some bMax
  else if x = "min" then some bMin
  else if x = "sorted" then some bSorted2
  else if x = "abs" then some bAbs
  else none
def compBi (cc : CC) (sc : SC) (r : Expr → Option EF) (x : Str) (es : List Expr) : Option EF :=
  if x = "isinstance" then (match es with
    | [a, .Name T _] => if notStar a && (decide (T ∈ tyNames) && (bltB cc sc "isinstance" && bltB cc sc T)) then (r a).map (eUn (opIsi T)) else none
    | _ => none)
  else match es with
    | [e] => if isRange e && (bltB cc sc "range" && bltB cc sc x) then (if x = "list" then (rgA r e).map lstRg else if x = "tuple" then (rgA r e).map tupRg else none)
      else if bltB cc sc x then (match biOp x, compA r [e] with
        | some o, some g => some (eBi o g)
        | _, _ => none) else none
    | [e, e2] => if (x = "max" ∨ x = "min") ∧ bltB cc sc x = true then (match biOp x, compA r [e, e2] with
        | some o, some g => some (eBi o g)
        | _, _ => none) else none
    | _ => none
/-- what is walked, from a target's view -/
def compI (cc : CC) (sc : SC) (r : Expr → Option EF) (tg : Expr) : Expr → Option IF
  | .Call (.Name x p) es [] pos =>
    if x = "range" then (if bltB cc sc "range" then (match es with
      | [a] => if notStar a then (r a).map iR1 else none
      | [a, b] => if notStar a && notStar b then (match r a, r b with
        | some f, some g => some (iR2 f g)
        | _, _ => none) else none
      | [a, b, .UnaryOp .USub (.Constant (.int 1) _ _) _] => if notStar a && notStar b then (match r a, r b with
        | some f, some g => some (iR3 f g)
        | _, _ => none) else none
      | _ => none) else none)
    else if x = "enumerate" then (if bltB cc sc "enumerate" && isTupE tg then (match es with
      | [a] => if notStar a then (r a).map iEn else none
      | _ => none) else none)
    else if x = "zip" then (if bltB cc sc "zip" && isTupE tg then (match es with
      | [a, b] => if notStar a && notStar b then (match r a, r b with
        | some f, some g => some (iZp f g)
        | _, _ => none) else none
      | _ => none) else none)
    else (r (.Call (.Name x p) es [] pos)).map iEx
  | e => (r e).map iEx
/-- a target: its slots, its store -/
def compGs (r : Expr → Option (List Nat × GF)) : List Expr → Option (List Nat × List GF)
  | [] => some ([], [])
  | t :: ts => if notStar t then (match r t, compGs r ts with
    | some a, some b => some (a.1 ++ b.1, a.2 :: b.2)
    | _, _ => none) else none
def compG (cc : CC) (sc : SC) : Nat → Expr → Option (List Nat × GF)
  | 0, _ => none
  | n + 1, e => match e with
    | .Name x _ => if locB sc x then (pos0 cc.N x).map fun i => ([i], gNm i) else none
    | .Tuple ts _ _ => (compGs (compG cc sc n) ts).map fun p => (p.1, gTp p.2)
    | _ => none
structure LcP where
  own : List (Str × Nat)
  sl : List Nat
  it : IF
  g : GF
  t : TF
  el : EF
def ownOf (cc : CC) (scope : Scope) : List (Str × Nat) := scope.names.filterMap fun y => match y.2 with
  | .local => (pos0 cc.N y.1).map fun i => (y.1, i)
  | .cell => (pos0 cc.N y.1).map fun i => (y.1, i)
  | _ => none
def compTs (r : Expr → Option TF) : List Expr → Option TF
  | [] => some tTrue
  | [c] => r c
  | _ => none
def compLc (cc : CC) (sc : SC) (r : Rec) (elt tg iter : Expr) (ifs : List Expr) (scope : Scope) : Option LcP :=
  if notSet iter && blkC cc.N sc.sc scope (ownOf cc scope) then (match compI cc sc (r.E sc) tg iter, compG cc (blkSC scope sc) 3 tg, compTs (r.T (blkSC scope sc)) ifs, r.E (blkSC scope sc) elt with
    | some it, some g, some t, some el => if g.1.all fun i => decide (i ∈ (ownOf cc scope).map (·.2)) then some ⟨ownOf cc scope, g.1, it, g.2, t, el⟩ else none
    | _, _, _, _ => none) else none
def compAnd (r : Expr → Option EF) : List Expr → Option EF
  | [] => none
  | a :: rest => match rest with
    | [] => r a
    | _ => (match r a, compAnd r rest with
      | some f, some g => some (eAn f g)
      | _, _ => none)
def compOr (r : Expr → Option EF) : List Expr → Option EF
  | [] => none
  | a :: rest => match rest with
    | [] => r a
    | _ => (match r a, compOr r rest with
      | some f, some g => some (eOr f g)
      | _, _ => none)
def compAndT (r : Expr → Option TF) : List Expr → Option TF
  | [] => none
  | a :: rest => match rest with
    | [] => r a
    | _ => (match r a, compAndT r rest with
      | some f, some g => some (tAn f g)
      | _, _ => none)
def compOrT (r : Expr → Option TF) : List Expr → Option TF
  | [] => none
  | a :: rest => match rest with
    | [] => r a
    | _ => (match r a, compOrT r rest with
      | some f, some g => some (tOr f g)
      | _, _ => none)
def compO (r : Expr → Option EF) : Option Expr → Option OF
  | none => some oNone
  | some e => (r e).map oSome
def constD : Const → Option D
  | .int i => some (.int i)
  | .bool b => some (.bool b)
  | .none => some .none
  | .str x => some (.str x)
  | _ => none
def isM1 : Expr → Bool
  | .UnaryOp .USub (.Constant (.int 1) _ _) _ => true
  | _ => false
def compSub (r : Expr → Option EF) (a : Expr) : Expr → Option EF
  | .Slice lo hi st _ => match st with
    | none => (match r a, compO r lo, compO r hi with
      | some f, some g, some h => some (eSl f g h)
      | _, _, _ => none)
    | some m => (match lo, hi with
      | none, none => if isM1 m then (r a).map (eUn opRev) else (match r a, r m with
        | some f, some g => some (eBin opStep f g)
        | _, _ => none)
      | _, _ => none)
  | i => match r a, r i with
    | some f, some g => some (eBin opIx f g)
    | _, _ => none
/-- sorted(set(e)) -/
def compSet (cc : CC) (sc : SC) (r : Expr → Option EF) (x : Str) : List Expr → Option EF
  | [.Call (.Name y _) [e] [] _] => if (decide (x = "sorted") && decide (y = "set")) && ((bltB cc sc "sorted" && bltB cc sc "set") && notStar e) then (r e).map (eUn oSrtSet) else none
  | _ => none
/-! ### the names that are handed on -/
def quietB : List Str := ["len", "isinstance", "int", "str", "bool", "list", "tuple", "sum", "all", "any", "max", "min", "sorted", "set", "abs", "range"]
/-- sum([..]) takes what it walks for its own time alone -/
def tmpB (x : Str) (args : List Expr) : Bool := decide (x = "sum") && (match args with
  | [.ListComp _ _ _ _] => true
  | _ => false)
def escE : Nat → Bool → Expr → List Str
  | 0, _, _ => []
  | n + 1, up, e => match e with
    | .Name x _ => if up then [x] else []
    | .Tuple es _ _ => es.flatMap (escE n true)
    | .List es _ => es.flatMap (escE n true)
    | .Call f args _ _ => (match f with
      | .Name x _ => if tmpB x args then [] else if x ∈ quietB then args.flatMap (escE n false) else args.flatMap (escE n true)
      | _ => args.flatMap (escE n true))
    | .BinOp a _ b _ => escE n false a ++ escE n false b
    | .UnaryOp _ a _ => escE n false a
    | .BoolOp _ es _ => es.flatMap (escE n up)
    | .IfExp c a b _ => escE n false c ++ (escE n up a ++ escE n up b)
    | .Compare a _ bs _ => escE n false a ++ bs.flatMap (escE n false)
    | .Subscript a i _ => escE n false a ++ escE n false i
    | .Slice a b _ _ => (match a with
      | some a => escE n false a
      | none => []) ++ (match b with
      | some b => escE n false b
      | none => [])
    | .ListComp elt gs _ _ => escE n true elt ++ gs.flatMap fun g => escE n true g.iter ++ g.ifs.flatMap (escE n false)
    | _ => []
def escN (cc : CC) (up : Bool) (e : Expr) : List Nat := (escE 30 up e).filterMap (pos0 cc.N)
def tmpOf (cc : CC) (x : Str) (es : List Expr) : EF → EF := if tmpB x es then eTmp (es.flatMap (escN cc true)) else fun f => f
def compCall (cc : CC) (sc : SC) (r : Expr → Option EF) (x : Str) (es : List Expr) : Option EF :=
  match cc.fns.find? fun e => decide (e.x = x) with
  | some fe => (match es with
    | [] => none
    | e :: rest => if glB sc x && (decide ((e :: rest).length = fe.n) && (e :: rest).all notStar) then (compA (frzR r) (e :: rest)).map (eCall fe.f) else none)
  | none => (match compSet cc sc r x es with
    | some f => some f
    | none => (compBi cc sc r x es).map (tmpOf cc x es))
def compCmp (r : Expr → Option EF) (a : Expr) (ops : List CmpOp) (bs : List Expr) : Option EF := match ops, bs with
  | [op], [b] => (match cmpS op, r a, r b with
    | some o, some f, some g => if behindInMarks op b then none else some (eBin o f g)
    | _, _, _ => none)
  | [op, op'], [b, c] => (match cmpS op, cmpS op', r a, r b, r c with
    | some o, some o', some f, some g, some h => if lastMarks [op, op'] [b, c] then none else some (eChain o o' f g h)
    | _, _, _, _, _ => none)
  | _, _ => none
def stepE (cc : CC) (r : Rec) (sc : SC) : Expr → Option EF
  | .Constant c _ _ => (constD c).map eC
  | .Name x _ => if visB sc x then (pos0 cc.N x).map eVar else if glB sc x then (cc.con.lookup x).map eC else none
  | .BinOp a op b _ => (match binS op, r.E sc a, r.E sc b with
    | some o, some f, some g => some (eBin o f g)
    | _, _, _ => none)
  | .UnaryOp op a _ => (match op with
    | .USub => (match a with
      | .Constant (.int 1) _ _ => some (eC (.int (-1)))
      | _ => none)
    | .Not => (r.E sc a).map eNt
    | _ => none)
  | .BoolOp op es _ => (match op with
    | .And => compAnd (r.E sc) es
    | .Or => compOr (r.E sc) es)
  | .Compare a ops bs _ => compCmp (r.E sc) a ops bs
  | .IfExp c a b _ => (match r.T sc c, r.E sc a, r.E sc b with
    | some t, some f, some g => some (eIf t f g)
    | _, _, _ => none)
  | .Tuple es _ _ => (compA (frzR (r.E sc)) es).map eTup
  | .List es _ => (compA (frzR (r.E sc)) es).map eLst
  | .Subscript a i _ => compSub (r.E sc) a i
  | .ListComp elt gs scope _ => (match gs with
    | [⟨tg, iter, ifs, 0⟩] => (compLc cc sc r elt tg iter ifs scope).map fun p => eLc (p.own.map (·.2)) p.it p.g p.t p.el
    | _ => none)
  | .Call f es kw _ => (match f, kw with
    | .Name x _, [] => compCall cc sc (r.E sc) x es
    | _, _ => none)
  | _ => none
def stepT (cc : CC) (r : Rec) (sc : SC) : Expr → Option TF
  | .UnaryOp op a _ => (match op with
    | .Not => (r.T sc a).map tNt
    | _ => none)
  | .BoolOp op es _ => (match op with
    | .And => compAndT (r.T sc) es
    | .Or => compOrT (r.T sc) es)
  | .Compare a ops bs _ => (compCmp (r.E sc) a ops bs).map tVal
  | .IfExp _ _ _ _ => none
  | e => (r.E sc e).map tVal
def recN (cc : CC) : Nat → Rec
  | 0 => ⟨fun _ _ => none, fun _ _ => none⟩
  | n + 1 => ⟨stepE cc (recN cc n), stepT cc (recN cc n)⟩
/-! ### it tells the truth -/
section
variable {S : Sys} {k : Nat} {E : XK} {cc : CC} {sc : SC}
structure RecOk (S : Sys) (k : Nat) (cc : CC) (r : Rec) : Prop where
  e : ∀ E sc e f, r.E sc e = some f → CE S k E cc sc e f
  t : ∀ E sc e f, r.T sc e = some f → CT S k E cc sc e f
theorem compA_ok {r : Expr → Option EF} (h : ∀ e f, r e = some f → CE S k E cc sc e f) : ∀ {es : List Expr} {g : AF}, compA r es = some g → CA S k E cc sc es g ∧ es.all notStar = true ∧ ∀ env ls, g env = .ok ls → ls.length = es.length
  | [], g, e => by
    cases e
    exact ⟨ca_nil, rfl, fun env ls h => by cases h; rfl⟩
  | a :: es, g, e => by
    unfold compA at e
    split at e
    · rename_i hs
      split at e
      · rename_i f g' e1 e2
        cases e
        obtain ⟨h1, h2, h3⟩ := compA_ok h e2
        refine ⟨ca_cons hs (h _ _ e1) h1, by rw [List.all_cons, hs, h2]; rfl, fun env ls hh => ?_⟩
        have hh' : ((f env).bind fun a => (g' env).bind fun b => .ok (a :: b)) = M.ok ls := hh
        cases e3 : f env with
        | stuck => rw [e3] at hh'; cases hh'
        | ex c => rw [e3] at hh'; cases hh'
        | ok l =>
          rw [e3] at hh'
          cases e4 : g' env with
          | stuck => simp only [M.ok_bind, e4] at hh'; cases hh'
          | ex c => simp only [M.ok_bind, e4] at hh'; cases hh'
          | ok ls' =>
            simp only [M.ok_bind, e4] at hh'
            cases hh'
            rw [List.length_cons, h3 env ls' e4, List.length_cons]
      · cases e
    · cases e
theorem frzR_ok {r : Expr → Option EF} (h : ∀ e f, r e = some f → CE S k E cc sc e f) : ∀ e f, frzR r e = some f → CE S k E cc sc e f := fun e f he => by
  unfold frzR at he
  cases e1 : r e with
  | none => rw [e1] at he; cases he
  | some g =>
    rw [e1] at he
    cases he
    exact ce_fz (h _ _ e1)
theorem map_ok {α β : Type} {o : Option α} {f : α → β} {b : β} (h : o.map f = some b) : ∃ a, o = some a ∧ f a = b := by
  cases o with
  | none => cases h
  | some a => exact ⟨a, rfl, Option.some.inj h⟩
theorem binS_ok {op : Operator} {o : L → L → M L} {a b : Expr} {f g : EF} {pos : Pos} (h : binS op = some o) (ha : CE S k E cc sc a f) (hb : CE S k E cc sc b g) : CE S k E cc sc (.BinOp a op b pos) (eBin o f g) := by
  cases op <;> first | (cases h; done) | skip
  all_goals cases h
  · exact ce_op (r := rAdd S.K) (fun X c ta tb pa pb => by rw [← c.K]; exact pe_op or_add pa pb) os_add ha hb
  · exact ce_op (fun X c ta tb pa pb => pe_op op_sub pa pb) os_sub ha hb
  · exact ce_op (fun X c ta tb pa pb => pe_op or_mul pa pb) os_mul ha hb
  · exact ce_op (fun X c ta tb pa pb => pe_op op_mod pa pb) os_mod ha hb
  · exact ce_op (fun X c ta tb pa pb => pe_op op_pow pa pb) os_pow ha hb
  · exact ce_op (fun X c ta tb pa pb => pe_op op_fdivW pa pb) os_div ha hb
end
end PD
/-! the reading tells the truth: expressions -/
namespace PD
open PySem PySem.Spec PyProof.Rows L2
section
variable {S : Sys} {k : Nat} {E : XK} {cc : CC} {sc : SC}
theorem CtxOk.hu {X : Cx} (c : CtxOk S k E cc sc X) : X.A.units + 64 < cLine := by have := c.room.un; omega
theorem CtxOk.hu1 {X : Cx} (c : CtxOk S k E cc sc X) : X.A.units + 65 < cLine := by have := c.room.un; omega
theorem CtxOk.hu1' {X : Cx} (c : CtxOk S k E cc sc X) : X.A.units + 1 < cLine := by have := c.room.un; omega
theorem CtxOk.hu0 {X : Cx} (c : CtxOk S k E cc sc X) : X.A.units < cLine := by have := c.room.un; omega
def rIs2 (neg : Bool) : R2 := fun x y H Q => (y = .non ∧ Q (.bl (if neg then !decide (x = .non) else decide (x = .non))) H) ∨ (∃ a b : Bool, x = .bl a ∧ y = .bl b ∧ Q (.bl (if neg then !decide (a = b) else decide (a = b))) H)
theorem os_is {neg : Bool} : OpS S E (rIs2 neg) (opIs neg) := fun HA HB G H x y a b sb ra rb => by
  unfold opIs
  split
  · have e := DR.toNon rb
    subst e
    exact EvG.imp (us_isN HA G H x a sb ra) fun Q q => .inl ⟨rfl, q⟩
  · exact EvG.imp (os_isB HA HB G H x y a b sb ra rb) fun Q q => .inr q
theorem cmpS_ok {op : CmpOp} {o : L → L → M L} (h : cmpS op = some o) : ∃ r : R2, (∀ X, CtxOk S k E cc sc X → OpR X (compareOp op) r) ∧ OpS S E r o := by
  cases op <;> cases h
  · exact ⟨_, fun X c => by rw [← c.K]; exact op_eqD c.hu, os_eq⟩
  · exact ⟨_, fun X c => by rw [← c.K]; exact op_neD c.hu, os_ne⟩
  · exact ⟨rLt S.K, fun X c => by rw [← c.K]; exact op_lt.or (op_ltT c.hu0), os_lt⟩
  · exact ⟨rLe S.K, fun X c => by rw [← c.K]; exact op_le.or (op_leT c.hu0), os_le⟩
  · exact ⟨_, fun X c => op_gt, os_gt⟩
  · exact ⟨_, fun X c => op_ge, os_ge⟩
  · exact ⟨rIs2 false, fun X c => op_isN.or op_isBl, os_is⟩
  · exact ⟨rIs2 true, fun X c => op_notN.or op_notBl, os_is⟩
  · exact ⟨rIn2 S.K false, fun X c => by rw [← c.K]; exact op_in_seq.or (op_inD c.hu1), os_in⟩
  · exact ⟨rIn2 S.K true, fun X c => by rw [← c.K]; exact op_notIn_seq.or (op_notInD c.hu1), os_in⟩
theorem compCmp_ok {r : Expr → Option EF} (h : ∀ e f, r e = some f → CE S k E cc sc e f) {a : Expr} {ops : List CmpOp} {bs : List Expr} {f : EF} {pos : Pos} (e : compCmp r a ops bs = some f) :
    CE S k E cc sc (.Compare a ops bs pos) f ∧ CT S k E cc sc (.Compare a ops bs pos) (tVal f) := by
  unfold compCmp at e
  split at e
  · rename_i op b
    split at e
    · rename_i o f1 g1 e1 e2 e3
      split at e
      · cases e
      · rename_i hm
        cases e
        obtain ⟨rr, h1, h2⟩ := cmpS_ok (S := S) (k := k) (E := E) (cc := cc) (sc := sc) e1
        have hm' := Bool.eq_false_iff.mpr hm
        exact ⟨ce_cmp h1 h2 hm' (h _ _ e2) (h _ _ e3), ct_cmp h1 h2 hm' (h _ _ e2) (h _ _ e3)⟩
    · cases e
  · rename_i op op' b c
    split at e
    · rename_i o o' f1 g1 h1 e1 e2 e3 e4 e5
      split at e
      · cases e
      · rename_i hm
        cases e
        obtain ⟨rr, p1, p2⟩ := cmpS_ok (S := S) (k := k) (E := E) (cc := cc) (sc := sc) e1
        obtain ⟨rr', q1, q2⟩ := cmpS_ok (S := S) (k := k) (E := E) (cc := cc) (sc := sc) e2
        have hm' := Bool.eq_false_iff.mpr hm
        exact ⟨ce_chain p1 q1 p2 q2 hm' (h _ _ e3) (h _ _ e4) (h _ _ e5), ct_chain p1 q1 p2 q2 hm' (h _ _ e3) (h _ _ e4) (h _ _ e5)⟩
    · cases e
  · cases e
theorem bltB_ok {x : Str} (C : CcOk S k cc) (h : bltB cc sc x = true) : glB sc x = true ∧ cc.fns.all (fun e => !(e.x == x)) = true ∧ S.mg x = none := by
  unfold bltB at h
  rw [Bool.and_eq_true, Bool.and_eq_true] at h
  exact ⟨h.1, h.2.1, blt_none C h.2.1 (of_decide_eq_true h.2.2)⟩
/-- a built-in function's, a built-in type's call -/
theorem ce_callB {id : String} {x : Str} {r : List V → Hp → VK → Prop} {op : List L → M L} {e : Expr} {es : List Expr} {g : AF} {p pos : Pos} (C : CcOk S k cc) (hb : bltB cc sc x = true) (hv : bootBuiltins x = some (.builtin id)) (hr : ∀ X, CtxOk S k E cc sc X → CallR X (.builtin id) r) (ho : CallS S E r op)
    (hs : (e :: es).all notStar = true) (h : CA S k E cc sc (e :: es) g) : CE S k E cc sc (.Call (.Name x p) (e :: es) [] pos) (eBi op g) := by
  obtain ⟨b1, b2, b3⟩ := bltB_ok C hb
  rw [List.all_cons, Bool.and_eq_true] at hs
  refine ce_bi (fun X c t pa => ?_) ho h
  obtain ⟨g1, g2, g3⟩ := glB_ok c b1
  exact pe_callB (hr X c) g1 (by rw [c.mg]; exact b3) hv pa g3 g2 (star_cons hs.1) (by rw [back_any]; exact star_any hs.2)
theorem ce_callTy {T : String} {x : Str} {r : List V → Hp → VK → Prop} {op : List L → M L} {e : Expr} {es : List Expr} {g : AF} {p pos : Pos} (C : CcOk S k cc) (hb : bltB cc sc x = true) (hv : bootBuiltins x = some (.type T)) (hr : ∀ X, CtxOk S k E cc sc X → CallR X (.type T) r) (ho : CallS S E r op)
    (hs : (e :: es).all notStar = true) (h : CA S k E cc sc (e :: es) g) : CE S k E cc sc (.Call (.Name x p) (e :: es) [] pos) (eBi op g) := by
  obtain ⟨b1, b2, b3⟩ := bltB_ok C hb
  rw [List.all_cons, Bool.and_eq_true] at hs
  refine ce_bi (fun X c t pa => ?_) ho h
  obtain ⟨g1, g2, g3⟩ := glB_ok c b1
  exact pe_callTy (hr X c) g1 (by rw [c.mg]; exact b3) hv pa g3 g2 (star_cons hs.1) (by rw [back_any]; exact star_any hs.2)
theorem biOp_ok {x : Str} {o : List L → M L} {e : Expr} {es : List Expr} {g : AF} {p pos : Pos} (C : CcOk S k cc) (h : biOp x = some o) (hb : bltB cc sc x = true) (hs : (e :: es).all notStar = true) (hg : CA S k E cc sc (e :: es) g) : CE S k E cc sc (.Call (.Name x p) (e :: es) [] pos) (eBi o g) := by
  unfold biOp at h
  split at h
  · rename_i ex; subst ex; cases h
    exact ce_callB C hb PySem.boot_len (fun X c => by rw [← c.K]; exact call_len) cs_len hs hg
  split at h
  · rename_i ex; subst ex; cases h
    exact ce_callTy C hb boot_int (fun X c => call_int1) cs_int hs hg
  split at h
  · rename_i ex; subst ex; cases h
    exact ce_callTy C hb boot_list (fun X c => by rw [← c.K]; exact call_list_of) cs_list hs hg
  split at h
  · rename_i ex; subst ex; cases h
    exact ce_callTy C hb boot_tuple (fun X c => by rw [← c.K]; exact call_tuple_of) cs_tuple hs hg
  split at h
  · rename_i ex; subst ex; cases h
    exact ce_callB (id := "sum") C hb (by decide +kernel) (fun X c => by rw [← c.K]; exact cr_sumA c.calm) cs_sum2 hs hg
  split at h
  · rename_i ex; subst ex; cases h
    exact ce_callB (id := "all") C hb (by decide +kernel) (fun X c => by rw [← c.K]; exact cr_all c.calm) cs_all hs hg
  split at h
  · rename_i ex; subst ex; cases h
    exact ce_callB (id := "any") C hb (by decide +kernel) (fun X c => by rw [← c.K]; exact cr_any c.calm) cs_any hs hg
  split at h
  · rename_i ex; subst ex; cases h
    exact ce_callB (id := "max") C hb (by decide +kernel) (fun X c => by rw [← c.K]; exact (call_max2 c.calm).or (cr_max c.calm)) cs_max hs hg
  split at h
  · rename_i ex; subst ex; cases h
    exact ce_callB (id := "min") C hb (by decide +kernel) (fun X c => by rw [← c.K]; exact (call_min2 c.calm).or (cr_min c.calm)) cs_min hs hg
  split at h
  · rename_i ex; subst ex; cases h
    exact ce_callB (id := "sorted") C hb (by decide +kernel) (fun X c => by
      rw [← c.K]
      intro pins s σ H vs us Q I r h
      rcases h with h | h
      · exact cr_sortedI pins s σ H vs us Q I r h
      · exact cr_sortD (by have := c.room.un; omega) pins s σ H vs us Q I r h) cs_sorted2 hs hg
  split at h
  · rename_i ex; subst ex; cases h
    exact ce_callB (id := "abs") C hb (by decide +kernel) (fun X c => call_abs) cs_abs hs hg
  · cases h
/-- isinstance(x, T) -/
theorem tyx_of {HA G H : Hp} {x : V} {a : L} {d : D} (sb : Sb G H) (ra : WR S HA G H x a) (e : a.rd = .ok d) (hd : ∀ kvs, d ≠ .dict kvs) : TyX S.K H x (.type (tyOfD d)) := by
  have r := ra.rd sb e
  cases r with
  | non => exact .base .non
  | bl b => exact .base (.bl b)
  | int i => exact .base (.int i)
  | str s => exact .base (.str s)
  | lst h1 _ => exact .base (.lst h1)
  | tup h1 _ =>
    rcases h1 with (h1 | ⟨o, h1⟩) | ⟨o, its, n, h1, h2, _⟩
    · exact .base (.tup h1)
    · exact .fTuple h1
    · exact .kTuple h1 h2
  | scr h1 => exact absurd rfl (hd _)
  | dct h1 l r => exact absurd rfl (hd _)
theorem ce_isi {a : Expr} {T : Str} {f : EF} {p p2 pos : Pos} (C : CcOk S k cc) (hs : notStar a = true) (hT : T ∈ tyNames) (hb : bltB cc sc "isinstance" = true) (hb2 : bltB cc sc T = true) (h : CE S k E cc sc a f) : CE S k E cc sc (.Call (.Name "isinstance" p) [a, .Name T p2] [] pos) (eUn (opIsi T) f) := by
  obtain ⟨t, pe, v⟩ := h
  obtain ⟨b1, b2, b3⟩ := bltB_ok C hb
  obtain ⟨d1, d2, d3⟩ := bltB_ok C hb2
  have hboot : bootBuiltins T = some (.type (tyStr T)) := by
    have : T = "int" ∨ T = "bool" ∨ T = "str" ∨ T = "list" ∨ T = "tuple" := by simpa [tyNames] using hT
    rcases this with h | h | h | h | h <;> subst h <;> decide +kernel
  have key : ∀ T ∈ tyNames, ∀ s ∈ ["NoneType", "bool", "int", "str", "list", "tuple"], kitB s (tyStr T) = some (isiS (tyStr T) s) := by decide +kernel
  refine ⟨tCB (rIsi S.K) (tCons t (tCons (tC (.ty (tyStr T))) tNil)), fun X c => ?_, fun H0 G H σ env at0 => ?_⟩
  · obtain ⟨g1, g2, g3⟩ := glB_ok c b1
    obtain ⟨k1, k2, k3⟩ := glB_ok c d1
    rw [← c.K]
    exact pe_callB call_isi g1 (by rw [c.mg]; exact b3) (by decide +kernel) (pa_cons (pe X c) (pa_cons (pe_bltn k1 (by rw [c.mg]; exact d3) hboot rfl k3 k2) pa_nil (star_cons rfl)) (star_cons hs)) g3 g2 (star_cons hs) rfl
  · refine EvG.bind (tq := t σ H) (k := fun x H1 Q => rIsi S.K [x, .ty (tyStr T)] H1 Q) (v H0 G H σ env at0) fun x l G2 H2 _ x2 r2 => ⟨G2, x2, ?_⟩
    unfold opIsi
    split
    · exact EvG.stk
    · rename_i d e hd
      have h1 := tyx_of x2.gh r2 hd (fun kvs z => e kvs z)
      refine okB_now (E := E) x2.gh fun Q q => ⟨x, .ty (tyStr T), .type (tyOfD d), .type (tyStr T), _, rfl, .ty _, h1, kit_ty (key T hT _ ?_), q⟩
      cases d <;> first | (exact absurd rfl (e _)) | simp [tyOfD]
    · exact EvG.stk
end
end PD
/-! sorted(set(xs)) in a text -/
namespace PD
open PySem PySem.Spec PyProof.Rows L2
section
variable {S : Sys} {k : Nat} {E : XK} {cc : CC} {sc : SC}
theorem ce_sortSet {e : Expr} {f : EF} {p1 p2 q1 q2 : Pos} (C : CcOk S k cc) (hb : bltB cc sc "sorted" = true) (hb2 : bltB cc sc "set" = true) (hs : notStar e = true) (h : CE S k E cc sc e f) : CE S k E cc sc (.Call (.Name "sorted" p1) [.Call (.Name "set" p2) [e] [] q1] [] q2) (eUn oSrtSet f) := by
  obtain ⟨te, pe, v⟩ := h
  obtain ⟨b1, b2, b3⟩ := bltB_ok C hb
  obtain ⟨d1, d2, d3⟩ := bltB_ok C hb2
  refine ⟨tCB (rSortedSet S.w) (tCons (tCB (rSetLI S.K S.w) (tCons te tNil)) tNil), fun X c => ?_, fun H0 G H σ env a => ?_⟩
  · obtain ⟨g1, g2, g3⟩ := glB_ok c b1
    obtain ⟨e1, e2, e3⟩ := glB_ok c d1
    rw [← c.K, ← c.w]
    exact pe_callB (id := "sorted") (cr_sortedSet c.calm) g1 (by rw [c.mg]; exact b3) (by decide +kernel) (pa_cons (pe_callTy (cr_setLI c.calm) e1 (by rw [c.mg]; exact d3) (by decide +kernel) (pa_cons (pe X c) pa_nil (star_cons hs)) e3 e2 (star_cons hs) rfl) pa_nil rfl) g3 g2 rfl rfl
  · refine EvG.bind (tq := te σ H) (k := fun x H1 Q => rSetLI S.K S.w [x] H1 fun v H2 => rSortedSet S.w [v] H2 Q) (v H0 G H σ env a) fun x l G2 H2 _ gr r => ⟨G2, gr, ?_⟩
    unfold oSrtSet
    split
    · rename_i ns e1
      split
      · rename_i h64
        obtain ⟨p, rfl, hp⟩ := rdInts_ok gr.gh r e1
        refine fun Q q => ⟨p, ns, rfl, SqL.of hp, by omega, fun p3 c hc hn => ⟨p3, _, c, rfl, upd_same, by omega, fun ns' p4 s1 s2 s3 hn4 => ?_⟩⟩
        have e5 : ns' = sortU ns := lt_unique s1 (sortU_lt ns) fun j => by
          rw [s2 j, sortU_mem]
          exact decide_eq_true_iff
        have ne : p4 ≠ p3 := fun z => by
          rw [z, upd_same] at hn4
          cases hn4
        have hn5 : H2 p4 = none := by rwa [upd_ne ne] at hn4
        have g1 := Gr.new (S := S) (o := SetO S.w p3 (fun j => decide (j ∈ ns)) c) gr.gh hn
        have g2 := g1.trans (Gr.new (S := S) (o := .lst (ns'.map V.int)) g1.gh hn4)
        refine q _ G2 _ g2 ⟨p4, ns'.map V.int, rfl, gr.dom p4 hn5, gr.gh.none hn5, upd_same, ?_⟩
        rw [e5]
        exact DRs.map fun n _ => .int n
      · exact EvG.stk
    · exact EvG.stk
end
end PD
/-! the reading tells the truth: expressions, the rest -/
namespace PD
open PySem PySem.Spec PyProof.Rows L2
section
variable {S : Sys} {k : Nat} {E : XK} {cc : CC} {sc : SC}
theorem rgV_D {G : Hp} {lo hi : Int} : DRs S.K G (rgV lo hi) (rngD lo (hi - lo).toNat) := by
  unfold rgV rngD
  exact DRs.map fun i _ => .int _
theorem rngD_len {lo : Int} {n : Nat} : (rngD lo n).length = n := by unfold rngD; rw [List.length_map, List.length_range]
theorem rgOk {i j : Int} (h1 : b62 i = true) (h2 : b62 j = true) (h : (j - i).toNat ≤ cap) : RgOk i j := ⟨(b62_ok h1).1, (b62_ok h1).2, (b62_ok h2).1, (b62_ok h2).2, Nat.le_trans h (by decide)⟩
/-- list(range(..)), tuple(range(..)) -/
theorem ce_lr1 {a : Expr} {f : EF} {p1 p2 p3 pos : Pos} (C : CcOk S k cc) (hb : bltB cc sc "list" = true) (hr : bltB cc sc "range" = true) (hs : notStar a = true) (h : CE S k E cc sc a f) : CE S k E cc sc (.Call (.Name "list" p1) [.Call (.Name "range" p2) [a] [] p3] [] pos) (lstRg (iR1 f)) := by
  obtain ⟨t, pe, v⟩ := h
  obtain ⟨b1, b2, b3⟩ := bltB_ok C hb
  obtain ⟨d1, d2, d3⟩ := bltB_ok C hr
  refine ⟨tLstRg (tRg1 t), fun X c => pe_listRg c.calm (glB_ok c b1).1 (by rw [c.mg]; exact b3) (prg_1 (glB_ok c d1).1 (by rw [c.mg]; exact d3) (pe X c) (star_cons hs)) (star_cons rfl), fun H0 G H σ env at0 => ?_⟩
  have e : lstRg (iR1 f) env = (f env).bind fun l => (int1 (fun j => if b62 j = true then .ok (rngD 0 j.toNat) else .stuck) l).bind fun xs => if xs.length ≤ cap then .ok (.fr xs) else .stuck := by
    unfold lstRg iR1
    cases f env <;> rfl
  rw [e]
  refine EvG.bind (tq := t σ H) (k := fun x H1 (Q : VK) => ∃ n, x = .int n ∧ (RgOk 0 n ∧ ∀ q, H1 q = none → Q (V.ref q) (upd H1 q (.lst (rgV 0 n))))) (v H0 G H σ env at0) fun x l G2 H2 el x2 r2 => ⟨G2, x2, ?_⟩
  clear el
  cases l <;> first | exact EvG.stk | skip
  rename_i d
  cases d <;> first | exact EvG.stk | skip
  rename_i j
  have ex := DR.toInt r2
  subst ex
  show EvG S E (fun _ => WR S H) _ G2 H2 ((if b62 j = true then M.ok (rngD 0 j.toNat) else .stuck).bind fun xs => if xs.length ≤ cap then .ok (.fr xs) else .stuck)
  split
  · rename_i hb
    show EvG S E (fun _ => WR S H) _ G2 H2 (if (rngD 0 j.toNat).length ≤ cap then .ok (.fr (rngD 0 j.toNat)) else .stuck)
    split
    · rename_i hc
      rw [rngD_len] at hc
      have r := rgV_D (S := S) (G := G2) (lo := 0) (hi := j)
      rw [Int.sub_zero] at r
      exact (ev_newL x2.gh r fun Q q => ⟨j, rfl, rgOk (by decide) hb (by rw [Int.sub_zero]; exact hc), q⟩).weak (bk_W S) x2.dom
    · exact EvG.stk
  · exact EvG.stk
theorem ce_tr1 {a : Expr} {f : EF} {p1 p2 p3 pos : Pos} (C : CcOk S k cc) (hb : bltB cc sc "tuple" = true) (hr : bltB cc sc "range" = true) (hs : notStar a = true) (h : CE S k E cc sc a f) : CE S k E cc sc (.Call (.Name "tuple" p1) [.Call (.Name "range" p2) [a] [] p3] [] pos) (tupRg (iR1 f)) := by
  obtain ⟨t, pe, v⟩ := h
  obtain ⟨b1, b2, b3⟩ := bltB_ok C hb
  obtain ⟨d1, d2, d3⟩ := bltB_ok C hr
  refine ⟨tTupRg (tRg1 t), fun X c => pe_tupRg c.calm (glB_ok c b1).1 (by rw [c.mg]; exact b3) (prg_1 (glB_ok c d1).1 (by rw [c.mg]; exact d3) (pe X c) (star_cons hs)) (star_cons rfl), fun H0 G H σ env at0 => ?_⟩
  have e : tupRg (iR1 f) env = (f env).bind fun l => (int1 (fun j => if b62 j = true then .ok (rngD 0 j.toNat) else .stuck) l).bind fun xs => if xs.length ≤ cap then .ok (.d (.tuple xs)) else .stuck := by
    unfold tupRg iR1
    cases f env <;> rfl
  rw [e]
  refine EvG.bind (tq := t σ H) (k := fun x H1 (Q : VK) => ∃ n, x = .int n ∧ (RgOk 0 n ∧ ∀ q, H1 q = none → Q (V.ref q) (upd H1 q (.tup (rgV 0 n))))) (v H0 G H σ env at0) fun x l G2 H2 el x2 r2 => ⟨G2, x2, ?_⟩
  clear el
  cases l <;> first | exact EvG.stk | skip
  rename_i d
  cases d <;> first | exact EvG.stk | skip
  rename_i j
  have ex := DR.toInt r2
  subst ex
  show EvG S E (fun _ => WR S H) _ G2 H2 ((if b62 j = true then M.ok (rngD 0 j.toNat) else .stuck).bind fun xs => if xs.length ≤ cap then .ok (.d (.tuple xs)) else .stuck)
  split
  · rename_i hb
    show EvG S E (fun _ => WR S H) _ G2 H2 (if (rngD 0 j.toNat).length ≤ cap then .ok (.d (.tuple (rngD 0 j.toNat))) else .stuck)
    split
    · rename_i hc
      rw [rngD_len] at hc
      have r := rgV_D (S := S) (G := G2) (lo := 0) (hi := j)
      rw [Int.sub_zero] at r
      exact (ev_newT x2.gh r fun Q q => ⟨j, rfl, rgOk (by decide) hb (by rw [Int.sub_zero]; exact hc), q⟩).weak (bk_W S) x2.dom
    · exact EvG.stk
  · exact EvG.stk
theorem ev_rg2 {t u : TE} {f g : EF} {kk : Int → Int → Hp → VK → Prop} {F : List D → M L} {H0 G H : Hp} {σ : L2.St} {env : List L} (at0 : At S H0 G H σ env) (v : EvW S E t σ G H (f env)) (w : ∀ G2 H2, At S H0 G2 H2 σ env → EvW S E u σ G2 H2 (g env))
    (hk : ∀ (G2 H2 : Hp) i j, Sb G2 H2 → b62 i = true → b62 j = true → EvG S E (WR S) (kk i j H2) G2 H2 (F (rngD i (j - i).toNat))) :
    EvG S E (WR S) (fun Q => t σ H fun x H1 => u σ H1 fun y H2 => ∃ i j, x = .int i ∧ y = .int j ∧ kk i j H2 Q) G H ((iR2 f g env).bind F) := by
  have e : (iR2 f g env).bind F = (f env).bind fun a => (g env).bind fun b => (int1 (fun i => int1 (fun j => if b62 i = true ∧ b62 j = true then .ok (rngD i (j - i).toNat) else .stuck) b) a).bind F := by
    unfold iR2
    cases f env with
    | stuck => rfl
    | ex c => rfl
    | ok a =>
      show ((g env).bind _).bind F = (g env).bind _
      cases g env <;> rfl
  rw [e]
  refine EvG.bind (tq := t σ H) (k := fun x H1 Q => u σ H1 fun y H2 => ∃ i j, x = .int i ∧ y = .int j ∧ kk i j H2 Q) v fun x l G2 H2 el x2 r2 => ⟨G2, x2, ?_⟩
  refine EvG.bind (tq := u σ H2) (k := fun y H2 Q => ∃ i j, x = .int i ∧ y = .int j ∧ kk i j H2 Q) (w G2 H2 (at0.up x2)) fun y l2 G3 H3 el2 x3 r3 => ⟨G3, x3, ?_⟩
  clear el el2
  cases l <;> first | exact EvG.stk | skip
  rename_i d
  cases d <;> first | exact EvG.stk | skip
  rename_i i
  cases l2 <;> first | exact EvG.stk | skip
  rename_i d
  cases d <;> first | exact EvG.stk | skip
  rename_i j
  have ex := DR.toInt r2
  have ey := DR.toInt r3
  subst ex ey
  show EvG S E (fun _ => WR S H) _ G3 H3 ((if b62 i = true ∧ b62 j = true then M.ok (rngD i (j - i).toNat) else .stuck).bind F)
  split
  · rename_i hb
    exact ((hk G3 H3 i j x3.gh hb.1 hb.2).imp fun Q q => ⟨i, j, rfl, rfl, q⟩).weak (bk_W S) fun p h => x2.dom p (x3.dom p h)
  · exact EvG.stk
theorem ce_lr2 {a b : Expr} {f g : EF} {p1 p2 p3 pos : Pos} (C : CcOk S k cc) (hb : bltB cc sc "list" = true) (hr : bltB cc sc "range" = true) (hs : notStar a = true) (hs2 : notStar b = true) (h : CE S k E cc sc a f) (h2 : CE S k E cc sc b g) : CE S k E cc sc (.Call (.Name "list" p1) [.Call (.Name "range" p2) [a, b] [] p3] [] pos) (lstRg (iR2 f g)) := by
  obtain ⟨t, pe, v⟩ := h
  obtain ⟨u, pu, w⟩ := h2
  obtain ⟨b1, b2, b3⟩ := bltB_ok C hb
  obtain ⟨d1, d2, d3⟩ := bltB_ok C hr
  refine ⟨tLstRg (tRg2 t u), fun X c => pe_listRg c.calm (glB_ok c b1).1 (by rw [c.mg]; exact b3) (prg_2 (glB_ok c d1).1 (by rw [c.mg]; exact d3) (pe X c) (pu X c) (by rw [star_cons hs]) (star_cons hs2) (by rw [back_any]; exact star_any (by rw [List.all_cons, hs2]; rfl))) (star_cons rfl), fun H0 G H σ env at0 => ?_⟩
  refine ev_rg2 (kk := fun i j H2 Q => RgOk i j ∧ ∀ q, H2 q = none → Q (V.ref q) (upd H2 q (.lst (rgV i j)))) at0 (v H0 G H σ env at0) (fun G2 H2 a2 => w H0 G2 H2 σ env a2) fun G2 H2 i j sb hi hj => ?_
  split
  · rename_i hc
    rw [rngD_len] at hc
    exact ev_newL sb rgV_D fun Q q => ⟨rgOk hi hj hc, q⟩
  · exact EvG.stk
theorem ce_tr2 {a b : Expr} {f g : EF} {p1 p2 p3 pos : Pos} (C : CcOk S k cc) (hb : bltB cc sc "tuple" = true) (hr : bltB cc sc "range" = true) (hs : notStar a = true) (hs2 : notStar b = true) (h : CE S k E cc sc a f) (h2 : CE S k E cc sc b g) : CE S k E cc sc (.Call (.Name "tuple" p1) [.Call (.Name "range" p2) [a, b] [] p3] [] pos) (tupRg (iR2 f g)) := by
  obtain ⟨t, pe, v⟩ := h
  obtain ⟨u, pu, w⟩ := h2
  obtain ⟨b1, b2, b3⟩ := bltB_ok C hb
  obtain ⟨d1, d2, d3⟩ := bltB_ok C hr
  refine ⟨tTupRg (tRg2 t u), fun X c => pe_tupRg c.calm (glB_ok c b1).1 (by rw [c.mg]; exact b3) (prg_2 (glB_ok c d1).1 (by rw [c.mg]; exact d3) (pe X c) (pu X c) (by rw [star_cons hs]) (star_cons hs2) (by rw [back_any]; exact star_any (by rw [List.all_cons, hs2]; rfl))) (star_cons rfl), fun H0 G H σ env at0 => ?_⟩
  refine ev_rg2 (kk := fun i j H2 Q => RgOk i j ∧ ∀ q, H2 q = none → Q (V.ref q) (upd H2 q (.tup (rgV i j)))) at0 (v H0 G H σ env at0) (fun G2 H2 a2 => w H0 G2 H2 σ env a2) fun G2 H2 i j sb hi hj => ?_
  split
  · rename_i hc
    rw [rngD_len] at hc
    exact ev_newT sb rgV_D fun Q q => ⟨rgOk hi hj hc, q⟩
  · exact EvG.stk
theorem isRange_ok {e : Expr} (h : isRange e = true) : ∃ p es pos, e = .Call (.Name "range" p) es [] pos := by
  unfold isRange at h
  split at h
  · rename_i x p es pos
    have h' : x = ("range" : Str) := eq_of_beq h
    subst h'
    exact ⟨_, _, _, rfl⟩
  · cases h
theorem and2 {a b : Bool} (h : (a && b) = true) : a = true ∧ b = true := Bool.and_eq_true_iff.mp h
theorem compBi_ok {r : Expr → Option EF} (C : CcOk S k cc) (h : ∀ e f, r e = some f → CE S k E cc sc e f) {x : Str} {es : List Expr} {f : EF} {p pos : Pos} (e : compBi cc sc r x es = some f) : CE S k E cc sc (.Call (.Name x p) es [] pos) f := by
  unfold compBi at e
  split at e
  · rename_i ex
    subst ex
    split at e
    · rename_i a T p2
      split at e
      · rename_i hc
        obtain ⟨c1, c2⟩ := and2 hc
        obtain ⟨c2, c3⟩ := and2 c2
        obtain ⟨c3, c4⟩ := and2 c3
        obtain ⟨g, hg, rfl⟩ := map_ok e
        exact ce_isi C c1 (of_decide_eq_true c2) c3 c4 (h _ _ hg)
      · cases e
    · cases e
  · split at e
    · rename_i e1
      split at e
      · rename_i hc
        obtain ⟨c1, c23⟩ := and2 hc
        obtain ⟨c2, c3⟩ := and2 c23
        clear hc c23
        obtain ⟨p2, es2, pos2, rfl⟩ := isRange_ok c1
        split at e
        · rename_i ex
          subst ex
          obtain ⟨g, hg, rfl⟩ := map_ok e
          unfold rgA at hg
          split at hg
          · rename_i a _ heq
            cases heq
            split at hg
            · rename_i hs
              obtain ⟨f1, hf1, rfl⟩ := map_ok hg
              exact ce_lr1 C c3 c2 hs (h _ _ hf1)
            · cases hg
          · rename_i a b _ heq
            cases heq
            split at hg
            · rename_i hs
              obtain ⟨s1, s2⟩ := and2 hs
              split at hg
              · rename_i f1 g1 hf1 hg1
                cases hg
                exact ce_lr2 C c3 c2 s1 s2 (h _ _ hf1) (h _ _ hg1)
              · cases hg
            · cases hg
          · cases hg
        · split at e
          · rename_i ex
            subst ex
            obtain ⟨g, hg, rfl⟩ := map_ok e
            unfold rgA at hg
            split at hg
            · rename_i a _ heq
              cases heq
              split at hg
              · rename_i hs
                obtain ⟨f1, hf1, rfl⟩ := map_ok hg
                exact ce_tr1 C c3 c2 hs (h _ _ hf1)
              · cases hg
            · rename_i a b _ heq
              cases heq
              split at hg
              · rename_i hs
                obtain ⟨s1, s2⟩ := and2 hs
                split at hg
                · rename_i f1 g1 hf1 hg1
                  cases hg
                  exact ce_tr2 C c3 c2 s1 s2 (h _ _ hf1) (h _ _ hg1)
                · cases hg
              · cases hg
            · cases hg
          · cases e
      · split at e
        · rename_i hb
          split at e
          · rename_i o g ho hg
            cases e
            obtain ⟨h1, h2, _⟩ := compA_ok h hg
            exact biOp_ok C ho hb h2 h1
          · cases e
        · cases e
    · rename_i e1 e2
      split at e
      · rename_i hc
        split at e
        · rename_i o g ho hg
          cases e
          obtain ⟨h1, h2, _⟩ := compA_ok h hg
          exact biOp_ok C ho hc.2 h2 h1
        · cases e
      · cases e
    · cases e
theorem isTupE_ok {e : Expr} (h : isTupE e = true) : ∃ ts n p, e = .Tuple ts n p := by
  cases e <;> first | (cases h; done) | exact ⟨_, _, _, rfl⟩
theorem compI_ok {r : Expr → Option EF} (C : CcOk S k cc) (h : ∀ e f, r e = some f → CE S k E cc sc e f) {tg it : Expr} {f : IF} (e : compI cc sc r tg it = some f) : CI S k E cc sc tg it f := by
  unfold compI at e
  split at e
  · rename_i x p es pos
    split at e
    · rename_i ex
      subst ex
      split at e
      · rename_i hb
        obtain ⟨b1, b2, b3⟩ := bltB_ok C hb
        split at e
        · rename_i a
          split at e
          · rename_i hs
            obtain ⟨g, hg, rfl⟩ := map_ok e
            exact ci_range1 C b2 b1 hs (h _ _ hg)
          · cases e
        · rename_i a b
          split at e
          · rename_i hs
            obtain ⟨s1, s2⟩ := and2 hs
            split at e
            · rename_i f1 g1 hf1 hg1
              cases e
              exact ci_range2 C b2 b1 s1 s2 (h _ _ hf1) (h _ _ hg1)
            · cases e
          · cases e
        · rename_i a b n p1 p2
          split at e
          · rename_i hs
            obtain ⟨s1, s2⟩ := and2 hs
            split at e
            · rename_i f1 g1 hf1 hg1
              cases e
              exact ci_range3 C b2 b1 s1 s2 (h _ _ hf1) (h _ _ hg1)
            · cases e
          · cases e
        · cases e
      · cases e
    · split at e
      · rename_i ex
        subst ex
        split at e
        · rename_i hb
          obtain ⟨hb, ht⟩ := and2 hb
          obtain ⟨b1, b2, b3⟩ := bltB_ok C hb
          obtain ⟨ts, n, tp, rfl⟩ := isTupE_ok ht
          split at e
          · rename_i a
            split at e
            · rename_i hs
              obtain ⟨g, hg, rfl⟩ := map_ok e
              exact ci_enum C b2 b1 hs (h _ _ hg)
            · cases e
          · cases e
        · cases e
      · split at e
        · rename_i ex
          subst ex
          split at e
          · rename_i hb
            obtain ⟨hb, ht⟩ := and2 hb
            obtain ⟨b1, b2, b3⟩ := bltB_ok C hb
            obtain ⟨ts, n, tp, rfl⟩ := isTupE_ok ht
            split at e
            · rename_i a b
              split at e
              · rename_i hs
                obtain ⟨s1, s2⟩ := and2 hs
                split at e
                · rename_i f1 g1 hf1 hg1
                  cases e
                  exact ci_zip C b2 b1 s1 s2 (h _ _ hf1) (h _ _ hg1)
                · cases e
              · cases e
            · cases e
          · cases e
        · obtain ⟨g, hg, rfl⟩ := map_ok e
          exact ci_ex (h _ _ hg)
  · obtain ⟨g, hg, rfl⟩ := map_ok e
    exact ci_ex (h _ _ hg)
theorem compGs_ok {r : Expr → Option (List Nat × GF)} (h : ∀ e f, r e = some f → CG S k E cc sc e f.1 f.2) : ∀ {ts : List Expr} {f : List Nat × List GF}, compGs r ts = some f → CGs S k E cc sc ts f.1 f.2
  | [], f, e => by
    cases e
    exact cgs_nil
  | t :: ts, f, e => by
    unfold compGs at e
    split at e
    · rename_i hs
      split at e
      · rename_i a b e1 e2
        cases e
        exact cgs_cons hs (h _ _ e1) (compGs_ok h e2)
      · cases e
    · cases e
theorem compG_ok : ∀ (n : Nat) (e : Expr) (f : List Nat × GF), compG cc sc n e = some f → CG S k E cc sc e f.1 f.2
  | 0, _, _, e => by cases e
  | n + 1, e, f, h => by
    unfold compG at h
    split at h
    · rename_i x p
      split at h
      · rename_i hl
        obtain ⟨i, hi, rfl⟩ := map_ok h
        exact cg_name (pos0_ok hi) hl
      · cases h
    · rename_i ts m p
      obtain ⟨q, hq, rfl⟩ := map_ok h
      exact cg_tup (compGs_ok (compG_ok n) hq)
    · cases h
theorem compTs_ok {r : Expr → Option TF} (h : ∀ e f, r e = some f → CT S k E cc sc e f) {ifs : List Expr} {f : TF} (e : compTs r ifs = some f) : CTs S k E cc sc ifs f := by
  unfold compTs at e
  split at e
  · cases e
    exact cts_nil
  · exact cts_one (h _ _ e)
  · cases e
/-- the parts of a comprehension are right -/
structure LcOk (S : Sys) (k : Nat) (E : XK) (cc : CC) (sc : SC) (elt tg iter : Expr) (ifs : List Expr) (scope : Scope) (p : LcP) : Prop where
  ns : notSet iter = true
  ok : blkC cc.N sc.sc scope p.own = true
  i : CI S k E cc sc tg iter p.it
  g : CG S k E0 cc (blkSC scope sc) tg p.sl p.g
  sl : ∀ i ∈ p.sl, i ∈ p.own.map (·.2)
  t : CTs S k E0 cc (blkSC scope sc) ifs p.t
  e : CE S k E0 cc (blkSC scope sc) elt p.el
theorem compLc_ok {r : Rec} (C : CcOk S k cc) (h : RecOk S k cc r) {elt tg iter : Expr} {ifs : List Expr} {scope : Scope} {p : LcP} (e : compLc cc sc r elt tg iter ifs scope = some p) : LcOk S k E cc sc elt tg iter ifs scope p := by
  unfold compLc at e
  split at e
  · rename_i hc
    obtain ⟨c1, c2⟩ := and2 hc
    split at e
    · rename_i it g t el e1 e2 e3 e4
      split at e
      · rename_i hs
        cases e
        exact ⟨c1, c2, compI_ok C (h.e E sc) e1, compG_ok 3 tg g e2, fun i hi => of_decide_eq_true (List.all_eq_true.mp hs i hi), compTs_ok (h.t E0 _) e3, h.e E0 _ _ _ e4⟩
      · cases e
    · cases e
  · cases e
theorem compAnd_ok {r : Expr → Option EF} (h : ∀ e f, r e = some f → CE S k E cc sc e f) {pos : Pos} : ∀ {es : List Expr} {f : EF}, compAnd r es = some f → CE S k E cc sc (.BoolOp .And es pos) f
  | [], f, e => by cases e
  | [a], f, e => ce_one (h _ _ e)
  | a :: b :: rest, f, e => by
    have e' : (match r a, compAnd r (b :: rest) with
      | some f, some g => some (eAn f g)
      | _, _ => none) = some f := e
    split at e'
    · rename_i f1 g1 e1 e2
      cases e'
      exact ce_and (h _ _ e1) (compAnd_ok h e2)
    · cases e'
theorem compOr_ok {r : Expr → Option EF} (h : ∀ e f, r e = some f → CE S k E cc sc e f) {pos : Pos} : ∀ {es : List Expr} {f : EF}, compOr r es = some f → CE S k E cc sc (.BoolOp .Or es pos) f
  | [], f, e => by cases e
  | [a], f, e => ce_one (h _ _ e)
  | a :: b :: rest, f, e => by
    have e' : (match r a, compOr r (b :: rest) with
      | some f, some g => some (eOr f g)
      | _, _ => none) = some f := e
    split at e'
    · rename_i f1 g1 e1 e2
      cases e'
      exact ce_or (h _ _ e1) (compOr_ok h e2)
    · cases e'
theorem compAndT_ok {r : Expr → Option TF} (h : ∀ e f, r e = some f → CT S k E cc sc e f) {pos : Pos} : ∀ {es : List Expr} {f : TF}, compAndT r es = some f → CW S k E cc sc (.BoolOp .And es pos) f
  | [], f, e => by cases e
  | [a], f, e => cw_and1 (h _ _ e)
  | a :: b :: rest, f, e => by
    have e' : (match r a, compAndT r (b :: rest) with
      | some f, some g => some (tAn f g)
      | _, _ => none) = some f := e
    split at e'
    · rename_i f1 g1 e1 e2
      cases e'
      exact cw_and (h _ _ e1) (compAndT_ok h e2)
    · cases e'
theorem compOrT_ok {r : Expr → Option TF} (h : ∀ e f, r e = some f → CT S k E cc sc e f) {pos : Pos} : ∀ {es : List Expr} {f : TF}, compOrT r es = some f → CW S k E cc sc (.BoolOp .Or es pos) f
  | [], f, e => by cases e
  | [a], f, e => cw_or1 (h _ _ e)
  | a :: b :: rest, f, e => by
    have e' : (match r a, compOrT r (b :: rest) with
      | some f, some g => some (tOr f g)
      | _, _ => none) = some f := e
    split at e'
    · rename_i f1 g1 e1 e2
      cases e'
      exact cw_or (h _ _ e1) (compOrT_ok h e2)
    · cases e'
theorem compO_ok {r : Expr → Option EF} (h : ∀ e f, r e = some f → CE S k E cc sc e f) {o : Option Expr} {f : OF} (e : compO r o = some f) : CO S k E cc sc o f := by
  cases o with
  | none => cases e; exact co_none
  | some a =>
    obtain ⟨g, hg, rfl⟩ := map_ok (show (r a).map oSome = some f from e)
    exact co_some (h _ _ hg)
theorem compSub_ok {r : Expr → Option EF} (h : ∀ e f, r e = some f → CE S k E cc sc e f) {a i : Expr} {f : EF} {pos : Pos} (e : compSub r a i = some f) : CE S k E cc sc (.Subscript a i pos) f := by
  unfold compSub at e
  split at e
  · rename_i lo hi st p
    split at e
    · split at e
      · rename_i f1 g1 h1 e1 e2 e3
        cases e
        exact ce_sl (h _ _ e1) (compO_ok h e2) (compO_ok h e3)
      · cases e
    · rename_i m
      split at e
      · split at e
        · rename_i hm
          obtain ⟨g, hg, rfl⟩ := map_ok e
          unfold isM1 at hm
          split at hm
          · exact ce_un (r := fun x H Q => ∃ a xs, x = .ref a ∧ SqL S.K H a xs ∧ ∀ p, H p = none → Q (.ref p) (upd H p (.lst xs.reverse))) (fun X c ta pa => by rw [← c.K]; exact pe_revL pa) us_rev (h _ _ hg)
          · cases hm
        · split at e
          · rename_i f1 g1 e1 e2
            cases e
            exact ce_op (fun X c ta tb pa pb => by rw [← c.K]; exact pe_step pa pb) os_step (h _ _ e1) (h _ _ e2)
          · cases e
      · cases e
  · rename_i hns
    split at e
    · rename_i f1 g1 e1 e2
      cases e
      have hpl : PlainIx i := fun o j => by
        unfold subscripted
        split
        · exact (hns _ _ _ _ rfl).elim
        · rename_i hh
          cases hh
        · rfl
      exact ce_op (fun X c ta tb pa pb => by rw [← c.K]; exact pe_ix (or_ix c.hu1') pa pb hpl) os_ix (h _ _ e1) (h _ _ e2)
    · cases e
theorem compSet_ok {r : Expr → Option EF} (C : CcOk S k cc) (h : ∀ e f, r e = some f → CE S k E cc sc e f) {x : Str} {es : List Expr} {f : EF} {p pos : Pos} (e : compSet cc sc r x es = some f) : CE S k E cc sc (.Call (.Name x p) es [] pos) f := by
  unfold compSet at e
  split at e
  · split at e
    · rename_i hc
      obtain ⟨c1, c2⟩ := and2 hc
      obtain ⟨c1, c3⟩ := and2 c1
      obtain ⟨c2, c4⟩ := and2 c2
      obtain ⟨c2, c5⟩ := and2 c2
      have c1 := of_decide_eq_true c1
      have c3 := of_decide_eq_true c3
      subst c1
      subst c3
      obtain ⟨g, hg, rfl⟩ := map_ok e
      exact ce_sortSet C c2 c5 c4 (h _ _ hg)
    · cases e
  · cases e
theorem compCall_ok {r : Expr → Option EF} (C : CcOk S k cc) (h : ∀ e f, r e = some f → CE S k E cc sc e f) {x : Str} {es : List Expr} {f : EF} {p pos : Pos} (e : compCall cc sc r x es = some f) : CE S k E cc sc (.Call (.Name x p) es [] pos) f := by
  unfold compCall at e
  split at e
  · rename_i fe hf
    have h1 := List.find?_some hf
    have h2 := List.mem_of_find?_eq_some hf
    have hx : fe.x = x := of_decide_eq_true h1
    split at e
    · cases e
    · rename_i a rest
      split at e
      · rename_i hc
        obtain ⟨c1, c2⟩ := and2 hc
        obtain ⟨c2, c3⟩ := and2 c2
        obtain ⟨g, hg, rfl⟩ := map_ok e
        obtain ⟨g1, g2, g3⟩ := compA_ok (frzR_ok h) hg
        exact ce_call C h2 hx (of_decide_eq_true c2) c3 c1 g1 g3
      · cases e
  · split at e
    · rename_i g e2
      cases e
      exact compSet_ok C h e2
    · obtain ⟨f0, hf0, rfl⟩ := map_ok e
      have h0 := compBi_ok (p := p) (pos := pos) C h hf0
      unfold tmpOf
      split
      · exact ce_tmp _ h0
      · exact h0
theorem constD_ok {c : Const} {d : D} {n : Nat} {pos : Pos} (h : constD c = some d) : CE S k E cc sc (.Constant c n pos) (eC d) := by
  cases c <;> first | (cases h; done) | skip
  all_goals cases h
  · exact ce_c (v := .non) (fun X c => pe_non) fun G => .non
  · exact ce_c (v := .bl _) (fun X c => pe_bl) fun G => .bl _
  · exact ce_c (v := .int _) (fun X c => pe_int) fun G => .int _
  · exact ce_c (v := .str _) (fun X c => pe_str) fun G => .str _
theorem lookup_mem {α : Type} {x : Str} {d : α} : ∀ {l : List (Str × α)}, l.lookup x = some d → (x, d) ∈ l
  | [], h => by cases h
  | (y, e) :: l, h => by
    rw [List.lookup_cons] at h
    cases hb : x == y with
    | true =>
      rw [hb] at h
      have : x = y := eq_of_beq hb
      subst this
      cases h
      exact List.mem_cons_self
    | false =>
      rw [hb] at h
      exact List.mem_cons_of_mem _ (lookup_mem h)
theorem stepE_ok {r : Rec} (C : CcOk S k cc) (h : RecOk S k cc r) {e : Expr} {f : EF} (hf : stepE cc r sc e = some f) : CE S k E cc sc e f := by
  have he := h.e E sc
  have ht := h.t E sc
  cases e with
  | Constant c n p =>
    obtain ⟨d, hd, rfl⟩ := map_ok (show (constD c).map eC = some f from hf)
    exact constD_ok hd
  | Name x p =>
    have hf' : (if visB sc x then (pos0 cc.N x).map eVar else if glB sc x then (cc.con.lookup x).map eC else none) = some f := hf
    split at hf'
    · rename_i hv
      obtain ⟨i, hi, rfl⟩ := map_ok hf'
      obtain ⟨v1, v2, v3⟩ := visB_ok hv
      exact ce_var (pos0_ok hi) v1 v2 v3
    · split at hf'
      · rename_i hg
        obtain ⟨d, hd, rfl⟩ := map_ok hf'
        obtain ⟨v, u, h1, h2, h3⟩ := C.con _ (lookup_mem hd)
        exact ce_c (fun X c => pe_glob (glB_ok c hg).1 (by rw [c.mg]; exact h1) h2 (glB_ok c hg).2.1) h3
      · cases hf'
  | BinOp a op b p =>
    have hf' : (match binS op, r.E sc a, r.E sc b with
      | some o, some f, some g => some (eBin o f g)
      | _, _, _ => none) = some f := hf
    split at hf'
    · rename_i o f1 g1 e1 e2 e3
      cases hf'
      exact binS_ok e1 (he _ _ e2) (he _ _ e3)
    · cases hf'
  | UnaryOp op a p =>
    cases op with
    | USub =>
      have hf' : (match (generalizing := false) a with
        | .Constant (.int 1) _ _ => some (eC (.int (-1)))
        | _ => none) = some f := hf
      split at hf'
      · cases hf'
        exact ce_m1
      · cases hf'
    | Not =>
      obtain ⟨g, hg, rfl⟩ := map_ok (show (r.E sc a).map eNt = some f from hf)
      exact ce_not (he _ _ hg)
    | _ => cases hf
  | BoolOp op es p =>
    cases op with
    | And => exact compAnd_ok he hf
    | Or => exact compOr_ok he hf
  | Compare a ops bs p => exact (compCmp_ok he hf).1
  | IfExp c a b p =>
    have hf' : (match r.T sc c, r.E sc a, r.E sc b with
      | some t, some f, some g => some (eIf t f g)
      | _, _, _ => none) = some f := hf
    split at hf'
    · rename_i t f1 g1 e1 e2 e3
      cases hf'
      exact ce_if (ht _ _ e1) (he _ _ e2) (he _ _ e3)
    · cases hf'
  | Tuple es n p =>
    obtain ⟨g, hg, rfl⟩ := map_ok (show (compA (frzR (r.E sc)) es).map eTup = some f from hf)
    exact ce_tup (compA_ok (frzR_ok he) hg).1
  | List es p =>
    obtain ⟨g, hg, rfl⟩ := map_ok (show (compA (frzR (r.E sc)) es).map eLst = some f from hf)
    exact ce_lst (compA_ok (frzR_ok he) hg).1
  | Subscript a i p => exact compSub_ok he hf
  | ListComp elt gs scope p =>
    have hf' : (match (generalizing := false) gs with
      | [⟨tg, iter, ifs, 0⟩] => (compLc cc sc r elt tg iter ifs scope).map fun p => eLc (p.own.map (·.2)) p.it p.g p.t p.el
      | _ => none) = some f := hf
    split at hf'
    · obtain ⟨q, hq, rfl⟩ := map_ok hf'
      have L := compLc_ok (E := E) C h hq
      exact ce_lc L.ns L.ok L.i L.g L.sl L.t L.e
    · cases hf'
  | Call fe es kw p =>
    have hf' : (match (generalizing := false) fe, kw with
      | .Name x _, [] => compCall cc sc (r.E sc) x es
      | _, _ => none) = some f := hf
    split at hf'
    · exact compCall_ok C he hf'
    · cases hf'
  | _ => cases hf
theorem stepT_ok {r : Rec} (C : CcOk S k cc) (h : RecOk S k cc r) {e : Expr} {f : TF} (hf : stepT cc r sc e = some f) : CT S k E cc sc e f := by
  have he := h.e E sc
  have ht := h.t E sc
  have key : ∀ {f : TF}, plainT e = true → (r.E sc e).map tVal = some f → CT S k E cc sc e f := fun hp hm => by
    obtain ⟨g, hg, rfl⟩ := map_ok hm
    exact ct_val hp (he _ _ hg)
  cases e with
  | UnaryOp op a p =>
    cases op with
    | Not =>
      obtain ⟨g, hg, rfl⟩ := map_ok (show (r.T sc a).map tNt = some f from hf)
      exact ct_not (ht _ _ hg)
    | _ => cases hf
  | BoolOp op es p =>
    cases op with
    | And => exact (compAndT_ok ht hf).ct
    | Or => exact (compOrT_ok ht hf).ct
  | Compare a ops bs p =>
    obtain ⟨g, hg, rfl⟩ := map_ok (show (compCmp (r.E sc) a ops bs).map tVal = some f from hf)
    exact (compCmp_ok he hg).2
  | IfExp _ _ _ _ => cases hf
  | _ => exact key rfl hf
theorem recN_ok (C : CcOk S k cc) : ∀ n, RecOk S k cc (recN cc n)
  | 0 => ⟨fun _ _ _ _ h => (by cases h), fun _ _ _ _ h => (by cases h)⟩
  | n + 1 => ⟨fun E sc e f h => stepE_ok C (recN_ok C n) h, fun E sc e f h => stepT_ok C (recN_ok C n) h⟩
end
end PD
/-! a text's reading: statements, defs -/
namespace PD
open PySem PySem.Spec PyProof.Rows L2
/-! ### the names that are handed on -/
/-! ### a, b = .. with local names -/
def kindB (k : ScopeKind) : Bool := match k with
  | .function => true
  | _ => false
def parNames (sc : SC) (line : Nat) (ts : List Expr) : List Str := ts.filterMap fun
  | .Name id pos => if sc.sc.names.lookup id == some .local && pos.line == line then some id else none
  | _ => none
def swN (sc : SC) (ts vs : List Expr) : Option (Option (List Str)) :=
  if kindB sc.sc.kind then
    if !(ts.length == 2 || ts.length == 3) || vs.length != ts.length then some none
    else if vs.any fun | .Starred .. => true | _ => false then some none
    else
      let names := parNames sc ((ts.head?.map (·.pos.line)).getD 0) ts
      if names.length != ts.length || names.eraseDups.length != names.length then some none
      else if vs.all (foldedForSure 8) then some none
      else if vs.all (constantsAlone 8) then none
      else some (some names)
  else none
theorem kindB_ok {k : ScopeKind} (h : kindB k = true) : k = .function := by
  cases k <;> first | rfl | cases h
theorem swN_ok {sc : SC} {ts vs : List Expr} {n m : Nat} {p q : Pos} {env : Env} {o : Option (List Str)} (h : swN sc ts vs = some o) (hs : env.scope = sc.sc) : swappedStores [.Tuple ts n p] (.Tuple vs m q) env = pure o := by
  unfold swN at h
  split at h
  · rename_i hk
    have hk' := kindB_ok hk
    have hb : env.blockKind = .function := by
      unfold Env.blockKind
      rw [hs, hk']
      rfl
    have hn : (ts.filterMap fun
      | .Name id pos => if env.kindOf id == some .local && pos.line == (ts.head?.map (·.pos.line)).getD 0 then some id else none
      | _ => none) = parNames sc ((ts.head?.map (·.pos.line)).getD 0) ts := by
      unfold parNames Env.kindOf
      rw [hs]
    have hs2 : swappedStores [.Tuple ts n p] (.Tuple vs m q) env = (if !(ts.length == 2 || ts.length == 3) || vs.length != ts.length || ScopeKind.function != ScopeKind.function then pure none
      else if vs.any fun | .Starred .. => true | _ => false then pure none
      else if (ts.filterMap fun
        | .Name id pos => if env.kindOf id == some .local && pos.line == (ts.head?.map (·.pos.line)).getD 0 then some id else none
        | _ => none).length != ts.length || (ts.filterMap fun
        | .Name id pos => if env.kindOf id == some .local && pos.line == (ts.head?.map (·.pos.line)).getD 0 then some id else none
        | _ => none).eraseDups.length != (ts.filterMap fun
        | .Name id pos => if env.kindOf id == some .local && pos.line == (ts.head?.map (·.pos.line)).getD 0 then some id else none
        | _ => none).length then pure none
      else if vs.all (foldedForSure 8) then pure none
      else if vs.all (constantsAlone 8) then (do
          let _ ← (unsupported "assign.tuple-of-constant-expressions:order-of-the-stores" : Sem Unit)
          pure (some (ts.filterMap fun
        | .Name id pos => if env.kindOf id == some .local && pos.line == (ts.head?.map (·.pos.line)).getD 0 then some id else none
        | _ => none)))
      else pure (some (ts.filterMap fun
        | .Name id pos => if env.kindOf id == some .local && pos.line == (ts.head?.map (·.pos.line)).getD 0 then some id else none
        | _ => none))) := by
      unfold swappedStores
      rw [hb]
      rfl
    rw [hs2, hn]
    split at h
    · rename_i h1
      cases h
      exact if_pos (by rw [h1]; rfl)
    · rename_i h1
      refine (if_neg (by rw [Bool.eq_false_iff.mpr h1]; decide)).trans ?_
      split at h
      · rename_i h2
        cases h
        exact if_pos h2
      · rename_i h2
        refine (if_neg h2).trans ?_
        simp only [] at h
        split at h
        · rename_i h3
          cases h
          exact if_pos h3
        · rename_i h3
          refine (if_neg h3).trans ?_
          split at h
          · rename_i h4
            cases h
            exact if_pos h4
          · rename_i h4
            refine (if_neg h4).trans ?_
            split at h
            · cases h
            · rename_i h5
              cases h
              exact if_neg h5
  · cases h
end PD
/-! a text's reading: statements -/
namespace PD
open PySem PySem.Spec PyProof.Rows L2
def compP (cc : CC) (sc : SC) (r : Expr → Option EF) : Expr → Option (List L → M (D × List L))
  | .Call (.Attribute (.Name x _) m p2) es [] p3 =>
    if decide (m = "pop") && (visB sc x && (p2.endLine == p3.line)) then (match es with
      | [] => (pos0 cc.N x).map pPop
      | [a] => if notStar a then (match pos0 cc.N x, r a with
        | some i, some f => some (pPopAt i f)
        | _, _ => none) else none
      | _ => none) else none
  | _ => none
def compX (cc : CC) (sc : SC) (r : Expr → Option EF) (e : Expr) : Option SF := match e with
  | .Call (.Attribute (.Name x p1) m p2) es [] p3 =>
    if m = "append" then (if visB sc x && (p2.endLine == p3.line) then (match es with
      | [a] => if notStar a then (match pos0 cc.N x, compP cc sc r a with
        | some i, some f => some (sAppP i f)
        | some i, none => (r a).map (sApp (escN cc true a) i)
        | _, _ => none) else none
      | _ => none) else none)
    else if m = "extend" then (if visB sc x && (p2.endLine == p3.line) then (match es with
      | [a] => if notStar a then (match pos0 cc.N x, r a with
        | some i, some f => some (sExt (escN cc true a) i f)
        | _, _ => none) else none
      | _ => none) else none)
    else (compP cc sc r (.Call (.Attribute (.Name x p1) m p2) es [] p3)).map sPopX
  | e => if notComp e then (r e).map (sExp (escN cc true e)) else none
def compAsg (cc : CC) (sc : SC) (r : Rec) (x : Str) (e : Expr) : Option SF :=
  if locB sc x then (match pos0 cc.N x with
    | none => none
    | some i => match e with
      | .ListComp elt gs scope p => (match gs with
        | [⟨tg, iter, ifs, 0⟩] => (compLc cc sc r elt tg iter ifs scope).map fun q => sAsg (escN cc true (.ListComp elt gs scope p)) i (eLc (q.own.map (·.2)) q.it q.g q.t q.el)
        | _ => none)
      | .Dict ks vs _ => (match ks, vs with
        | [], [] => some (sDic i)
        | _, _ => none)
      | e => if notComp e then (match compP cc sc (r.E sc) e with
        | some f => some (sPopA i f)
        | none => (r.E sc e).map (sAsg (escN cc true e) i)) else none)
  else none
def isLoc (sc : SC) (x : Str) : Bool := match sc.sc.names.lookup x with
  | some .local => true
  | _ => false
theorem isLoc_ok {sc : SC} {x : Str} (h : isLoc sc x = true) : sc.sc.names.lookup x = some .local := by
  unfold isLoc at h
  split at h
  · rename_i e; exact e
  · cases h
def compTup (cc : CC) (sc : SC) (r : Expr → Option EF) (ts : List Expr) (n : Nat) (tp : Pos) (e : Expr) : Option SF :=
  match compG cc sc 3 (.Tuple ts n tp), r e with
  | some g, some f => if notTup e then some (sUnp (escN cc true e) g.2 f) else none
  | _, _ => none
def compPar (cc : CC) (sc : SC) (r : Expr → Option EF) (x y : Str) (a b : Expr) : Option SF :=
  if (isLoc sc x && isLoc sc y) && (notStar a && notStar b) then (match pos0 cc.N x, pos0 cc.N y, r a, r b with
    | some i, some j, some f, some g => if i ≠ j then some (sPar (escN cc true a ++ escN cc true b) i j f g) else none
    | _, _, _, _ => none) else none
def compTup2 (cc : CC) (sc : SC) (r : Expr → Option EF) (ts : List Expr) (n : Nat) (tp : Pos) (e : Expr) : Option SF := match e with
  | .Tuple vs _ _ => (match swN sc ts vs with
    | some none => (match compG cc sc 3 (.Tuple ts n tp), r e with
      | some g, some f => some (sUnp (escN cc true e) g.2 f)
      | _, _ => none)
    | some (some [x, y]) => (match ts, vs with
      | [.Name x' _, .Name y' _], [a, b] => if x' = x ∧ y' = y then compPar cc sc r x y a b else none
      | _, _ => none)
    | _ => none)
  | e => compTup cc sc r ts n tp e
def compSt (cc : CC) (sc : SC) (r : Expr → Option EF) (x : Str) (ie e : Expr) : Option SF :=
  if visB sc x && notSlice ie then (match pos0 cc.N x, r ie, r e with
    | some i, some g, some f => some (sSto (escN cc true e) i g f)
    | _, _, _ => none) else none
def compSs (r : Stmt → Option SF) : List Stmt → Option SF
  | [] => some sNil
  | s :: ss => match r s, compSs r ss with
    | some f, some g => some (sSeq f g)
    | _, _ => none
/-- a statement -/
def compS (cc : CC) (sc : SC) (exc : List Str) (fu : Nat) (r : Rec) : Nat → Stmt → Option SF
  | 0, _ => none
  | n + 1, s => match s with
    | .Expr e _ => compX cc sc (r.E sc) e
    | .Assign ts e _ => (match ts with
      | [.Name x _] => compAsg cc sc r x e
      | [.Tuple ts k tp] => compTup2 cc sc (r.E sc) ts k tp e
      | [.Subscript (.Name x _) ie _] => compSt cc sc (r.E sc) x ie e
      | _ => none)
    | .Return o _ => (match o with
      | none => some sRetN
      | some e => (r.E sc e).map (sRet (escN cc true e)))
    | .If c a b _ => (match r.T sc c, compSs (compS cc sc exc fu r n) a, compSs (compS cc sc exc fu r n) b with
      | some t, some f, some g => some (sIf (escN cc false c) t f g)
      | _, _, _ => none)
    | .For tg it body els _ => (match els with
      | [] => if notSet it then (match compI cc sc (r.E sc) tg it, compG cc sc 3 tg, compSs (compS cc sc exc fu r n) body with
        | some w, some g, some f => some (sFor (escN cc true it) w g.2 f)
        | _, _, _ => none) else none
      | _ => none)
    | .While c body els _ => (match els with
      | [] => (match r.T sc c, compSs (compS cc sc exc fu r n) body with
        | some t, some f => some (sWh fu [] t f)
        | _, _ => none)
      | _ => none)
    | .Raise o ca _ => (match o, ca with
      | some (.Call (.Name x _) [.Constant (.str _) _ _] [] _), none => if decide (x ∈ exc) && glB sc x then some (sRaise x) else none
      | _, _ => none)
    | .Pass _ => some sNil
    | .Continue _ => some sCt
    | .Break _ => some sBk
    | _ => none
section
variable {S : Sys} {k : Nat} {E : XK} {cc : CC} {sc : SC} {r : Rec}
theorem compP_ok {r : Expr → Option EF} (h : ∀ e f, r e = some f → CE S k E cc sc e f) {e : Expr} {f : List L → M (D × List L)} (hf : compP cc sc r e = some f) : CP S k E cc sc e f ∧ notComp e = true := by
  unfold compP at hf
  split at hf
  · rename_i x p1 m p2 es p3
    split at hf
    · rename_i hc
      obtain ⟨h1, h2⟩ := and2 hc
      obtain ⟨h2, h3⟩ := and2 h2
      have h1 := of_decide_eq_true h1
      subst h1
      obtain ⟨v1, v2, v3⟩ := visB_ok h2
      refine ⟨?_, rfl⟩
      split at hf
      · obtain ⟨i, e1, rfl⟩ := map_ok hf
        exact cp_pop (pos0_ok e1) v1 v2 v3 h3
      · split at hf
        · rename_i hs
          split at hf
          · rename_i i g e1 e2
            cases hf
            exact cp_popAt (pos0_ok e1) v1 v2 v3 h3 hs (h _ _ e2)
          · cases hf
        · cases hf
      · cases hf
    · cases hf
  · cases hf
theorem compX_ok {r : Expr → Option EF} (h : ∀ e f, r e = some f → CE S k E cc sc e f) {e : Expr} {f : SF} {pos : Pos} (hf : compX cc sc r e = some f) : CS S k E cc sc (.Expr e pos) f := by
  unfold compX at hf
  split at hf
  · rename_i x p1 m p2 es p3
    split at hf
    · rename_i hm
      subst hm
      split at hf
      · rename_i hc
        obtain ⟨h2, h3⟩ := and2 hc
        obtain ⟨v1, v2, v3⟩ := visB_ok h2
        split at hf
        · rename_i a
          split at hf
          · rename_i hs
            split at hf
            · rename_i i g e1 e2
              cases hf
              exact cs_appP (pos0_ok e1) v1 v2 v3 h3 hs (compP_ok h e2).1
            · rename_i i e1 e2
              obtain ⟨g, e3, rfl⟩ := map_ok hf
              exact cs_append _ (pos0_ok e1) v1 v2 v3 h3 hs (h _ _ e3)
            · cases hf
          · cases hf
        · cases hf
      · cases hf
    · split at hf
      · rename_i hm
        subst hm
        split at hf
        · rename_i hc
          obtain ⟨h2, h3⟩ := and2 hc
          obtain ⟨v1, v2, v3⟩ := visB_ok h2
          split at hf
          · rename_i a
            split at hf
            · rename_i hs
              split at hf
              · rename_i i g e1 e2
                cases hf
                exact cs_extend _ (pos0_ok e1) v1 v2 v3 h3 hs (h _ _ e2)
              · cases hf
            · cases hf
          · cases hf
        · cases hf
      · obtain ⟨g, e1, rfl⟩ := map_ok hf
        obtain ⟨c1, c2⟩ := compP_ok h e1
        exact cs_popX c2 c1
  · split at hf
    · rename_i hn
      obtain ⟨g, e1, rfl⟩ := map_ok hf
      exact cs_exp _ hn (h _ _ e1)
    · cases hf
theorem compAsg_ok (C : CcOk S k cc) (h : RecOk S k cc r) {x : Str} {e : Expr} {f : SF} {pos pos' : Pos} (hf : compAsg cc sc r x e = some f) : CS S k E cc sc (.Assign [.Name x pos'] e pos) f := by
  unfold compAsg at hf
  split at hf
  · rename_i hl
    split at hf
    · cases hf
    · rename_i i hi
      split at hf
      · split at hf
        · obtain ⟨q, e1, rfl⟩ := map_ok hf
          have lc := compLc_ok (E := E) C h e1
          exact cs_asgLc _ (pos0_ok hi) hl lc.ns lc.ok lc.i lc.g lc.sl lc.t lc.e
        · cases hf
      · split at hf
        · cases hf
          exact cs_dict (pos0_ok hi) hl
        · cases hf
      · split at hf
        · rename_i hn
          split at hf
          · rename_i g e1
            cases hf
            exact cs_popA (pos0_ok hi) hl hn (compP_ok (h.e E sc) e1).1
          · obtain ⟨g, e1, rfl⟩ := map_ok hf
            exact cs_asg _ (pos0_ok hi) hl hn (h.e E sc _ _ e1)
        · cases hf
  · cases hf
theorem compPar_ok {r : Expr → Option EF} (h : ∀ e f, r e = some f → CE S k E cc sc e f) {x y : Str} {a b : Expr} {f : SF} {px py pt pos pt2 : Pos} {kt k2 : Nat} (hw : swN sc [.Name x px, .Name y py] [a, b] = some (some [x, y])) (hf : compPar cc sc r x y a b = some f) :
    CS S k E cc sc (.Assign [.Tuple [.Name x px, .Name y py] kt pt] (.Tuple [a, b] k2 pt2) pos) f := by
  unfold compPar at hf
  split at hf
  · rename_i hc
    obtain ⟨h1, h2⟩ := and2 hc
    obtain ⟨h1, h3⟩ := and2 h1
    obtain ⟨h2, h4⟩ := and2 h2
    split at hf
    · rename_i i j g1 g2 e1 e2 e3 e4
      split at hf
      · rename_i hij
        cases hf
        exact cs_par _ (pos0_ok e1) (pos0_ok e2) hij (isLoc_ok h1) (isLoc_ok h3) h2 h4 (fun X c => swN_ok hw c.toCtxOk.scp) (h _ _ e3) (h _ _ e4)
      · cases hf
    · cases hf
  · cases hf
theorem compTup2_ok {r : Expr → Option EF} (h : ∀ e f, r e = some f → CE S k E cc sc e f) {ts : List Expr} {n : Nat} {tp pos : Pos} {e : Expr} {f : SF} (hf : compTup2 cc sc r ts n tp e = some f) : CS S k E cc sc (.Assign [.Tuple ts n tp] e pos) f := by
  unfold compTup2 at hf
  split at hf
  · rename_i vs m q
    split at hf
    · rename_i hw
      split at hf
      · rename_i g f1 e1 e2
        cases hf
        exact cs_unp _ (fun X c => swN_ok hw c.toCtxOk.scp) (compG_ok 3 _ _ e1) (h _ _ e2)
      · cases hf
    · rename_i x y hw
      split at hf
      · rename_i x' p1 y' p2 a b
        split at hf
        · rename_i hc
          obtain ⟨rfl, rfl⟩ := hc
          exact compPar_ok h hw hf
        · cases hf
      · cases hf
    · cases hf
  · unfold compTup at hf
    split at hf
    · rename_i g f1 e1 e2
      split at hf
      · rename_i hn
        cases hf
        exact cs_unp _ (fun X c => swappedTup hn) (compG_ok 3 _ _ e1) (h _ _ e2)
      · cases hf
    · cases hf
theorem compSt_ok {r : Expr → Option EF} (h : ∀ e f, r e = some f → CE S k E cc sc e f) {x : Str} {ie e : Expr} {f : SF} {p1 p2 pos : Pos} (hf : compSt cc sc r x ie e = some f) : CS S k E cc sc (.Assign [.Subscript (.Name x p1) ie p2] e pos) f := by
  unfold compSt at hf
  split at hf
  · rename_i hc
    obtain ⟨h1, h2⟩ := and2 hc
    obtain ⟨v1, v2, v3⟩ := visB_ok h1
    split at hf
    · rename_i i g f1 e1 e2 e3
      cases hf
      exact cs_store _ (pos0_ok e1) v1 v2 v3 h2 (h _ _ e3) (h _ _ e2)
    · cases hf
  · cases hf
theorem compSs_ok {r : Stmt → Option SF} : ∀ {ss : List Stmt} {f : SF}, (∀ s f, r s = some f → CS S k E cc sc s f) → compSs r ss = some f → CSs S k E cc sc ss f
  | [], f, h, e => by cases e; exact css_nil
  | s :: ss, f, h, e => by
    unfold compSs at e
    split at e
    · rename_i f1 g e1 e2
      cases e
      exact css_cons (h _ _ e1) (compSs_ok h e2)
    · cases e
theorem compS_ok {exc : List Str} {fu : Nat} (C : CcOk S k cc) (h : RecOk S k cc r) (hx : ∀ x ∈ exc, ExcAt S x) : ∀ n s f, compS cc sc exc fu r n s = some f → CS S k E cc sc s f
  | 0, _, _, e => by cases e
  | n + 1, s, f, e => by
    have ih := compS_ok (exc := exc) (fu := fu) C h hx n
    unfold compS at e
    split at e
    · exact compX_ok (h.e E sc) e
    · split at e
      · exact compAsg_ok C h e
      · exact compTup2_ok (h.e E sc) e
      · exact compSt_ok (h.e E sc) e
      · cases e
    · split at e
      · cases e; exact cs_retN
      · obtain ⟨g, e1, rfl⟩ := map_ok e
        exact cs_ret _ (h.e E sc _ _ e1)
    · split at e
      · rename_i t f1 g1 e1 e2 e3
        cases e
        exact cs_if _ (h.t E sc _ _ e1) (compSs_ok ih e2) (compSs_ok ih e3)
      · cases e
    · split at e
      · split at e
        · rename_i hns
          split at e
          · rename_i w g f1 e1 e2 e3
            cases e
            exact cs_for _ hns (compI_ok C (h.e E sc) e1) (compG_ok 3 _ _ e2) (compSs_ok ih e3)
          · cases e
        · cases e
      · cases e
    · split at e
      · split at e
        · rename_i t f1 e1 e2
          cases e
          exact cs_while _ (h.t E sc _ _ e1) (compSs_ok ih e2)
        · cases e
      · cases e
    · split at e
      · split at e
        · rename_i hc
          cases e
          obtain ⟨h1, h2⟩ := and2 hc
          exact cs_raise (hx _ (of_decide_eq_true h1)) h2
        · cases e
      · cases e
    · cases e; exact cs_pass
    · cases e; exact cs_continue
    · cases e; exact cs_break
    · cases e
end
end PD
/-! defs -/
namespace PD
open PySem PySem.Spec PyProof.Rows L2
def startL (n : Nat) (ds : List D) : List L := ds.map .d ++ List.replicate (n - ds.length) .un
def semR : R → M D
  | .nx _ => .ok .none
  | .rt d => .ok d
  | _ => .stuck
def semF (n : Nat) (f : SF) (ds : List D) : M D := (f (startL n ds)).bind semR
section
variable {S : Sys} {G H : Hp}
theorem srs_un {H0 : Hp} : ∀ n, SRs S H0 G H (List.replicate n none) (List.replicate n .un) (List.replicate n [])
  | 0 => .nil
  | n + 1 => .cons rfl (srs_un n)
theorem srs_start {H0 : Hp} : ∀ {vs : List V} {ds : List D} (n : Nat), DRs S.K G vs ds → SRs S H0 G H (vs.map some ++ List.replicate n none) (ds.map .d ++ List.replicate n .un) (List.replicate (ds.length + n) [])
  | [], [], n, .nil => by
    rw [List.length_nil, Nat.zero_add]
    exact srs_un n
  | v :: vs, d :: ds, n, .cons a r => by
    have h := srs_start (H0 := H0) n r
    have e : ([] : List Addr) :: List.replicate (ds.length + n) [] = List.replicate ((d :: ds).length + n) [] := by
      rw [List.length_cons, Nat.add_right_comm]
      rfl
    rw [← e]
    exact SRs.cons ⟨rfl, v, rfl, a⟩ h
theorem flat_nil : ∀ n : Nat, (List.replicate n ([] : List Addr)).flatten = []
  | 0 => rfl
  | n + 1 => by rw [List.replicate_succ, List.flatten_cons, flat_nil n]; rfl
theorem env_start {H0 : Hp} {vs : List V} {ds : List D} {N : List Str} (r : DRs S.K G vs ds) : EnvR S H0 G H (L2.start N vs) (startL N.length ds) := by
  unfold L2.start startL
  rw [← r.length]
  refine ⟨_, srs_start (N.length - vs.length) r, ?_⟩
  rw [flat_nil]
  exact List.nodup_nil
end
section
variable {S : Sys} {k : Nat} {x qual : Str} {params : Arguments} {body : List Stmt} {scope : Scope} {fa : Addr} {fd : FuncData} {ps : List Str} {cc : CC}
theorem fnOk_of {exc : List Str} {fu d n : Nat} {f : SF} (F : FunD S.K x qual params body scope [] [] fa fd)
    (hsc : FnScope cc.N ps scope) (hn : ps.length = n) (C : CcOk S k cc) (hx : ∀ x ∈ exc, ExcAt S x) (hc : compSs (compS cc ⟨scope, fun _ => true, false⟩ exc fu (recN cc d) d) body = some f) :
    FnOk S.P S.w S.K S.mg S.base (L2N.CX S.P S.w) (k + 1) fa fd ps (spD S n (semF cc.N.length f)) := by
  refine F.ok hsc ?_ ?_
  · rintro vs H Q E ⟨G, ds, hl, _⟩
    rw [hl, hn]
  · rintro cdv A outer s H vs Q E hr ⟨G, ds, hl, sb, tb, rds, hf⟩
    obtain ⟨t, p, v⟩ := compSs_ok (E := E) (sc := ⟨scope, fun _ => true, false⟩) (compS_ok C (recN_ok C d) hx d) hc
    have tk : L2N.Takes (cxOf (L2N.CX S.P S.w) S.P S.w S.K S.mg S.base cc.N qual scope fa cdv A outer s H E) (fun cls d _ H => E cls d H) := L2N.takes_of rfl rfl rfl rfl
    refine ⟨t, p _ ⟨⟨rfl, rfl, rfl, rfl, rfl, rfl, hsc.nd, rfl, rfl, rfl, hr, L2N.passes_call tk fun _ _ _ _ h => h, fun z => nomatch z⟩, tk, passes_of rfl⟩, ?_⟩
    have hf2 : match (f (startL cc.N.length ds)).bind semR with
      | .stuck => False
      | .ex c => ∀ G' H', Gr S G H G' H' → E (.ref (S.ca c)) none H'
      | .ok d => ∀ v G' H', Gr S G H G' H' → DR S.K G' v d → Q v H' := hf
    refine evS_to (v G H G H _ _ ⟨Gr.refl sb, tb, env_start rds⟩) _ ?_
    cases e : f (startL cc.N.length ds) with
    | stuck => rw [e] at hf2; exact hf2.elim
    | ex c => rw [e] at hf2; exact hf2
    | ok r =>
      rw [e] at hf2
      cases r with
      | nx env => exact fun σ' G' H' a => hf2 .non G' H' a.gr .non
      | rt d => exact hf2
      | bk env => exact hf2.elim
      | ct env => exact hf2.elim
theorem fnAt_of {exc : List Str} {fu d n : Nat} {f : SF} (hF : ∃ fa fd, FunD S.K x qual params body scope [] [] fa fd ∧ S.mg x = some (.ref fa))
    (hb : ∀ (kV doc pm : Value) (an : Option Addr) (cdv ct : Value) (us : List Value), us.length = ps.length → bindArgs (PySem.W.fnOf x qual params body scope .none kV doc pm an cdv ct) ⟨us, []⟩ = pure (ps.zip us))
    (hsc : FnScope cc.N ps scope) (hn : ps.length = n) (C : CcOk S k cc) (hx : ∀ x ∈ exc, ExcAt S x) (hc : compSs (compS cc ⟨scope, fun _ => true, false⟩ exc fu (recN cc d) d) body = some f) :
    FnAt S (k + 1) x n (semF cc.N.length f) := by
  obtain ⟨fa, fd, F, mg⟩ := hF
  exact ⟨fa, fd, ps, mg, hn, F.bindsN hb, F.kp, fnOk_of F hsc hn C hx hc⟩
end
theorem FnAt.mono {S : Sys} {j k n : Nat} {x : Str} {f : List D → M D} (h : FnAt S j x n f) (hk : j ≤ k) : FnAt S k x n f := by
  obtain ⟨fa, fd, ps, h1, h2, h3, h4, h5⟩ := h
  exact ⟨fa, fd, ps, h1, h2, h3, h4, h5.mono hk⟩
/-- a weaker promise -/
theorem FnAt.imp {S : Sys} {k n : Nat} {x : Str} {f g : List D → M D} (h : FnAt S k x n f) (hg : ∀ ds, g ds = .stuck ∨ f ds = g ds) : FnAt S k x n g := by
  obtain ⟨fa, fd, ps, h1, h2, h3, h4, h5⟩ := h
  refine ⟨fa, fd, ps, h1, h2, h3, h4, h5.imp ?_⟩
  rintro vs H Q E ⟨G, ds, hl, sb, tb, rds, hf⟩
  rcases hg ds with e | e
  · rw [e] at hf
    exact hf.elim
  · exact ⟨G, ds, hl, sb, tb, rds, by rw [e]; exact hf⟩
end PD
/-! reckoning with the readings: what they give at known slots -/
namespace PD
open PySem PySem.Spec PyProof.Rows L2
/-- no more than so many -/
def lm {α : Type} (n : Nat) (m : M α) : M α := if n ≤ cap then m else .stuck
theorem lm_ok {α : Type} {n : Nat} (h : n ≤ 100000) (m : M α) : lm n m = m := if_pos h
theorem okb {α β : Type} (a : α) (f : α → M β) : (M.ok a).bind f = f a := (rfl)
theorem exb {α β : Type} (c : Str) (f : α → M β) : (M.ex c : M α).bind f = .ex c := (rfl)
theorem stb {α β : Type} (f : α → M β) : (M.stuck : M α).bind f = .stuck := (rfl)
/-! ### statements one behind another -/
def sq (r : M R) (g : SF) : M R := match r with
  | .ok (.nx e) => g e
  | r => r
@[simp] theorem sq_nx (e : List L) (g : SF) : sq (.ok (.nx e)) g = g e := (rfl)
@[simp] theorem sq_rt (d : D) (g : SF) : sq (.ok (.rt d)) g = .ok (.rt d) := (rfl)
@[simp] theorem sq_bk (e : List L) (g : SF) : sq (.ok (.bk e)) g = .ok (.bk e) := (rfl)
@[simp] theorem sq_ct (e : List L) (g : SF) : sq (.ok (.ct e)) g = .ok (.ct e) := (rfl)
@[simp] theorem sq_ex (c : Str) (g : SF) : sq (.ex c) g = .ex c := (rfl)
@[simp] theorem sq_stuck (g : SF) : sq .stuck g = .stuck := (rfl)
theorem ap_sSeq (f g : SF) (env : List L) : sSeq f g env = sq (f env) g := by
  unfold sSeq sq
  cases f env with
  | stuck => rfl
  | ex c => rfl
  | ok r => cases r <;> rfl
theorem ap_sNil (env : List L) : sNil env = .ok (.nx env) := (rfl)
theorem ap_sRet (is : List Nat) (f : EF) (env : List L) : sRet is f env = (f (fzE is env)).bind fun l => l.fz.bind fun d => .ok (.rt d) := (rfl)
theorem ap_sRetN (env : List L) : sRetN env = .ok (.rt .none) := (rfl)
theorem ap_sCt (env : List L) : sCt env = .ok (.ct env) := (rfl)
theorem ap_sBk (env : List L) : sBk env = .ok (.bk env) := (rfl)
theorem ap_sRaise (c : Str) (env : List L) : sRaise c env = .ex c := (rfl)
theorem ap_sExp (is : List Nat) (f : EF) (env : List L) : sExp is f env = (f (fzE is env)).bind fun _ => .ok (.nx (fzE is env)) := (rfl)
theorem ap_sAsg (is : List Nat) (i : Nat) (f : EF) (env : List L) : sAsg is i f env = (f (fzE is env)).bind (putL i (fzE is env)) := (rfl)
theorem putL_d (i : Nat) (env : List L) (x : D) : putL i env (.d x) = .ok (.nx (env.set i (.d x))) := (rfl)
theorem putL_fr (i : Nat) (env : List L) (x : List D) : putL i env (.fr x) = .ok (.nx (env.set i (.own x))) := (rfl)
theorem ap_sIf (is : List Nat) (t : TF) (f g : SF) (env : List L) : sIf is t f g env = (t (fzE is env)).bind fun b => if b then f (fzE is env) else g (fzE is env) := (rfl)
theorem ap_sFor (is : List Nat) (it : IF) (g : GF) (b : SF) (env : List L) : sFor is it g b env = (it (fzE is env)).bind fun xs => forGo g b xs (fzE is env) := (rfl)
def un1 : M (List L) → M R
  | .ok e => .ok (.nx e)
  | _ => .stuck
@[simp] theorem un1_ok (e : List L) : un1 (.ok e) = .ok (.nx e) := (rfl)
theorem ap_sUnp (is : List Nat) (g : GF) (f : EF) (env : List L) : sUnp is g f env = (f (fzE is env)).bind fun l => l.fz.bind fun d => un1 (g d (fzE is env)) := by
  unfold sUnp un1
  rfl
def par2 (j : Nat) (b : L) (r : M R) : M R := match r with
  | .ok (.nx env2) => putL j env2 b
  | _ => .stuck
@[simp] theorem par2_nx (j : Nat) (b : L) (e : List L) : par2 j b (.ok (.nx e)) = putL j e b := (rfl)
theorem ap_sPar (is : List Nat) (i j : Nat) (f g : EF) (env : List L) : sPar is i j f g env = (f (fzE is env)).bind fun a => (g (fzE is env)).bind fun b => par2 j b (putL i (fzE is env) a) := (rfl)
theorem ap_sApp (is : List Nat) (i : Nat) (f : EF) (env : List L) : sApp is i f env = onOwn (fzE is env) i fun xs => (f (fzE is env)).bind fun l => l.fz.bind fun d => lm (xs.length + 1) (.ok (.nx ((fzE is env).set i (.own (xs ++ [d]))))) := (rfl)
def ext2 (env : List L) (i : Nat) (xs : List D) : L → M R
  | .fr ys => if xs.length + ys.length ≤ cap then .ok (.nx (env.set i (.own (xs ++ ys)))) else .stuck
  | .d (.list ys) => if xs.length + ys.length ≤ cap then .ok (.nx (env.set i (.own (xs ++ ys)))) else .stuck
  | _ => .stuck
@[simp] theorem ext2_fr (env : List L) (i : Nat) (xs ys : List D) : ext2 env i xs (.fr ys) = lm (xs.length + ys.length) (.ok (.nx (env.set i (.own (xs ++ ys))))) := (rfl)
@[simp] theorem ext2_d (env : List L) (i : Nat) (xs ys : List D) : ext2 env i xs (.d (.list ys)) = lm (xs.length + ys.length) (.ok (.nx (env.set i (.own (xs ++ ys))))) := (rfl)
theorem ap_sExt (is : List Nat) (i : Nat) (f : EF) (env : List L) : sExt is i f env = onOwn (fzE is env) i fun xs => (f (fzE is env)).bind (ext2 (fzE is env) i xs) := (rfl)
def on1 (o : Option L) (f : List D → M R) : M R := match o with
  | some (.own xs) => f xs
  | _ => .stuck
@[simp] theorem on1_own (xs : List D) (f : List D → M R) : on1 (some (.own xs)) f = f xs := (rfl)
theorem ap_onOwn (env : List L) (i : Nat) (f : List D → M R) : onOwn env i f = on1 env[i]? f := (rfl)
def sto3 (env : List L) (i : Nat) (d : D) (xs : List D) : Option Nat → M R
  | some j => .ok (.nx (env.set i (.own (xs.set j d))))
  | none => .stuck
theorem sto2_int (env : List L) (i : Nat) (d : D) (xs : List D) (k : Int) : stoL env i d xs (.d (.int k)) = sto3 env i d xs (ixN xs.length k) := (rfl)
theorem sto3_some (env : List L) (i : Nat) (d : D) (xs : List D) (j : Nat) : sto3 env i d xs (some j) = .ok (.nx (env.set i (.own (xs.set j d)))) := (rfl)
theorem stoG_own (ix : EF) (env : List L) (i : Nat) (d : D) (xs : List D) : stoG ix env i d (some (.own xs)) = (ix env).bind (stoL env i d xs) := (rfl)
theorem stoG_dc (ix : EF) (env : List L) (i : Nat) (d : D) (ks : List Key) (ds : List D) : stoG ix env i d (some (.dc ks ds)) = (ix env).bind (stoK env i d ks ds) := (rfl)
theorem stoK_int (env : List L) (i : Nat) (d : D) (ks : List Key) (ds : List D) (k : Int) : stoK env i d ks ds (.d (.int k)) = lm (ks.length + 1) (.ok (.nx (env.set i (.dc (putKs ks (.inl k)) (putVs ks ds (.inl k) d))))) := (rfl)
theorem ap_sSto (is : List Nat) (i : Nat) (ix f : EF) (env : List L) : sSto is i ix f env = (f (fzE is env)).bind fun l => l.fz.bind fun d => stoG ix (fzE is env) i d (fzE is env)[i]? := (rfl)
theorem ap_sDic (i : Nat) (env : List L) : sDic i env = .ok (.nx (env.set i (.dc [] []))) := (rfl)
/-! ### freezing -/
def fz1 (env : List L) (i : Nat) : Option L → List L
  | some (.own xs) => env.set i (.d (.list xs))
  | some (.dc ks ds) => env.set i (.d (dicD ks ds))
  | _ => env
@[simp] theorem fz1_d (env : List L) (i : Nat) (x : D) : fz1 env i (some (.d x)) = env := (rfl)
@[simp] theorem fz1_un (env : List L) (i : Nat) : fz1 env i (some .un) = env := (rfl)
@[simp] theorem fz1_own (env : List L) (i : Nat) (xs : List D) : fz1 env i (some (.own xs)) = env.set i (.d (.list xs)) := (rfl)
theorem fz1_dc (env : List L) (i : Nat) (ks : List Key) (ds : List D) : fz1 env i (some (.dc ks ds)) = env.set i (.d (dicD ks ds)) := (rfl)
theorem ap_frz1 (env : List L) (i : Nat) : frz1 env i = fz1 env i env[i]? := (rfl)
theorem ap_fzE_nil (env : List L) : fzE [] env = env := (rfl)
theorem ap_fzE (env : List L) (i : Nat) (is : List Nat) : fzE (i :: is) env = fzE is (fz1 env i env[i]?) := (rfl)
/-! ### expressions -/
theorem ap_eC (d : D) (env : List L) : eC d env = .ok (.d d) := (rfl)
def vr : Option L → M L
  | none => .stuck
  | some .un => .stuck
  | some l => .ok l
@[simp] theorem vr_d (x : D) : vr (some (.d x)) = .ok (.d x) := (rfl)
@[simp] theorem vr_own (x : List D) : vr (some (.own x)) = .ok (.own x) := (rfl)
theorem ap_eVar (i : Nat) (env : List L) : eVar i env = vr env[i]? := by
  unfold eVar vr
  cases env[i]? with
  | none => rfl
  | some l => cases l <;> rfl
theorem ap_eBin (op : L → L → M L) (f g : EF) (env : List L) : eBin op f g env = (f env).bind fun a => (g env).bind fun b => op a b := (rfl)
theorem ap_eUn (op : L → M L) (f : EF) (env : List L) : eUn op f env = (f env).bind op := (rfl)
theorem ap_aNil (env : List L) : aNil env = .ok [] := (rfl)
theorem ap_aCons (f : EF) (g : AF) (env : List L) : aCons f g env = (f env).bind fun a => (g env).bind fun b => .ok (a :: b) := (rfl)
theorem ap_eFz (f : EF) (env : List L) : eFz f env = (f env).bind fzL := (rfl)
@[simp] theorem fzL_d (x : D) : fzL (.d x) = .ok (.d x) := (rfl)
@[simp] theorem fzL_fr (x : List D) : fzL (.fr x) = .ok (.d (.list x)) := (rfl)
@[simp] theorem fz_d (x : D) : L.fz (.d x) = .ok x := (rfl)
@[simp] theorem fz_fr (x : List D) : L.fz (.fr x) = .ok (.list x) := (rfl)
@[simp] theorem rd_d (x : D) : L.rd (.d x) = .ok x := (rfl)
@[simp] theorem rd_fr (x : List D) : L.rd (.fr x) = .ok (.list x) := (rfl)
@[simp] theorem rd_own (x : List D) : L.rd (.own x) = .ok (.list x) := (rfl)
@[simp] theorem allD_nil : allD [] = .ok [] := (rfl)
@[simp] theorem allD_cons (x : D) (r : List L) : allD (.d x :: r) = (allD r).bind fun ds => .ok (x :: ds) := (rfl)
theorem ap_eTup (g : AF) (env : List L) : eTup g env = (g env).bind fun ls => (allD ls).bind fun ds => lm ds.length (.ok (.d (.tuple ds))) := (rfl)
theorem ap_eLst (g : AF) (env : List L) : eLst g env = (g env).bind fun ls => (allD ls).bind fun ds => lm ds.length (.ok (.fr ds)) := (rfl)
theorem ap_eCall (f : List D → M D) (g : AF) (env : List L) : eCall f g env = (g env).bind fun ls => (allD ls).bind fun ds => (f ds).bind fun d => .ok (.d d) := (rfl)
theorem ap_eTmp (is : List Nat) (f : EF) (env : List L) : eTmp is f env = (f (fzE is env)).bind scal := (rfl)
theorem scal_i (i : Int) : scal (.d (.int i)) = .ok (.d (.int i)) := (rfl)
theorem ap_eBi (op : List L → M L) (g : AF) (env : List L) : eBi op g env = (g env).bind op := (rfl)
@[simp] theorem boolL_d (b : Bool) : boolL (.d (.bool b)) = .ok b := (rfl)
theorem ap_tVal (f : EF) (env : List L) : tVal f env = (f env).bind boolL := (rfl)
theorem ap_tAn (f g : TF) (env : List L) : tAn f g env = (f env).bind fun a => if a then g env else .ok false := (rfl)
theorem ap_tOr (f g : TF) (env : List L) : tOr f g env = (f env).bind fun a => if a then .ok true else g env := (rfl)
theorem ap_tNt (f : TF) (env : List L) : tNt f env = (f env).bind fun a => .ok (!a) := (rfl)
theorem ap_tTrue (env : List L) : tTrue env = .ok true := (rfl)
theorem ap_eIf (t : TF) (f g : EF) (env : List L) : eIf t f g env = (t env).bind fun b => if b then f env else g env := (rfl)
theorem ap_eAn (f g : EF) (env : List L) : eAn f g env = (f env).bind fun a => (boolL a).bind fun b => if b then g env else okB false := (rfl)
theorem ap_eOr (f g : EF) (env : List L) : eOr f g env = (f env).bind fun a => (boolL a).bind fun b => if b then okB true else g env := (rfl)
theorem ap_eNt (f : EF) (env : List L) : eNt f env = (f env).bind fun a => (boolL a).bind fun b => okB (!b) := (rfl)
theorem ap_eChain (op op' : L → L → M L) (f g h : EF) (env : List L) : eChain op op' f g h env = (f env).bind fun a => (g env).bind fun b => (op a b).bind fun z => (boolL z).bind fun r => if r then (h env).bind fun c => op' b c else okB false := (rfl)
theorem ap_okB (b : Bool) : okB b = .ok (.d (.bool b)) := (rfl)
theorem ap_okI (b : Int) : okI b = .ok (.d (.int b)) := (rfl)
/-! operations -/
@[simp] theorem add_i (i j : Int) : opAdd (.d (.int i)) (.d (.int j)) = .ok (.d (.int (i + j))) := (rfl)
@[simp] theorem add_t (xs ys : List D) : opAdd (.d (.tuple xs)) (.d (.tuple ys)) = lm (xs.length + ys.length) (.ok (.d (.tuple (xs ++ ys)))) := (rfl)
@[simp] theorem add_of (xs ys : List D) : opAdd (.own xs) (.fr ys) = lm (xs.length + ys.length) (.ok (.fr (xs ++ ys))) := (rfl)
@[simp] theorem add_ff (xs ys : List D) : opAdd (.fr xs) (.fr ys) = lm (xs.length + ys.length) (.ok (.fr (xs ++ ys))) := (rfl)
@[simp] theorem add_df (xs ys : List D) : opAdd (.d (.list xs)) (.fr ys) = lm (xs.length + ys.length) (.ok (.fr (xs ++ ys))) := (rfl)
@[simp] theorem add_dd (xs ys : List D) : opAdd (.d (.list xs)) (.d (.list ys)) = lm (xs.length + ys.length) (.ok (.fr (xs ++ ys))) := (rfl)
@[simp] theorem add_od (xs ys : List D) : opAdd (.own xs) (.d (.list ys)) = lm (xs.length + ys.length) (.ok (.fr (xs ++ ys))) := (rfl)
@[simp] theorem add_fd (xs ys : List D) : opAdd (.fr xs) (.d (.list ys)) = lm (xs.length + ys.length) (.ok (.fr (xs ++ ys))) := (rfl)
@[simp] theorem sub_i (i j : Int) : opSub (.d (.int i)) (.d (.int j)) = .ok (.d (.int (i - j))) := (rfl)
@[simp] theorem mul_i (i j : Int) : opMul (.d (.int i)) (.d (.int j)) = opMulI i j := (rfl)
theorem mulI_r {i j : Int} (h1 : -(2 ^ 64) < j) (h2 : j < 2 ^ 64) : opMulI i j = .ok (.d (.int (i * j))) := by
  have e : small j = true := by
    unfold small
    rw [decide_eq_true h1, decide_eq_true h2]
    rfl
  unfold opMulI
  rw [e, Bool.or_true, Bool.true_or, if_pos rfl]
  rfl
theorem mulI_l {i j : Int} (h1 : -(2 ^ 64) < i) (h2 : i < 2 ^ 64) : opMulI i j = .ok (.d (.int (i * j))) := by
  have e : small i = true := by
    unfold small
    rw [decide_eq_true h1, decide_eq_true h2]
    rfl
  unfold opMulI
  rw [e, Bool.true_or, Bool.true_or, if_pos rfl]
  rfl
theorem mulI_m {i j : Int} (h1 : i.natAbs < 2 ^ 500) (h2 : j.natAbs < 2 ^ 500) : opMulI i j = .ok (.d (.int (i * j))) := by
  unfold opMulI mid
  rw [decide_eq_true h1, decide_eq_true h2]
  simp
  rfl
@[simp] theorem mul_fr (xs : List D) (k : Int) : opMul (.fr xs) (.d (.int k)) = opRep (.ok (.list xs)) k := (rfl)
theorem rep_ok {xs : List D} {k : Nat} (h : xs.length * k ≤ cap) (h1 : k ≤ cap) : opRep (.ok (.list xs)) (k : Int) = .ok (.fr (List.replicate k xs).flatten) := by
  have h2 : ((k : Int)).toNat = k := Int.toNat_natCast k
  have h3 : -(2 ^ 63) ≤ (k : Int) ∧ (k : Int) < 2 ^ 63 ∧ xs.length * ((k : Int)).toNat ≤ cap := by
    rw [h2]
    have : cap = 100000 := rfl
    omega
  unfold opRep
  dsimp only
  rw [if_pos h3, h2]
theorem div_i {i j : Int} (h : 0 < j) (h2 : j.natAbs < 2 ^ 500) : opDiv (.d (.int i)) (.d (.int j)) = .ok (.d (.int (i / j))) := by
  show (if 0 < j ∧ mid j = true then okI (i / j) else .stuck) = _
  rw [if_pos ⟨h, decide_eq_true h2⟩]
  rfl
theorem mod_i {i j : Int} (h : 0 < j) : opMod (.d (.int i)) (.d (.int j)) = .ok (.d (.int (i % j))) := by
  show (if 0 < j then okI (i % j) else .stuck) = _
  rw [if_pos h]
  rfl
@[simp] theorem lt_i (i j : Int) : opLt (.d (.int i)) (.d (.int j)) = .ok (.d (.bool (decide (i < j)))) := (rfl)
@[simp] theorem le_i (i j : Int) : opLe (.d (.int i)) (.d (.int j)) = .ok (.d (.bool (decide (i ≤ j)))) := (rfl)
@[simp] theorem gt_i (i j : Int) : opGt (.d (.int i)) (.d (.int j)) = .ok (.d (.bool (decide (j < i)))) := (rfl)
@[simp] theorem ge_i (i j : Int) : opGe (.d (.int i)) (.d (.int j)) = .ok (.d (.bool (decide (j ≤ i)))) := (rfl)
@[simp] theorem bLen_t (xs : List D) : bLen [.d (.tuple xs)] = .ok (.d (.int xs.length)) := (rfl)
@[simp] theorem bLen_l (xs : List D) : bLen [.d (.list xs)] = .ok (.d (.int xs.length)) := (rfl)
@[simp] theorem bLen_f (xs : List D) : bLen [.fr xs] = .ok (.d (.int xs.length)) := (rfl)
@[simp] theorem bLen_o (xs : List D) : bLen [.own xs] = .ok (.d (.int xs.length)) := (rfl)
@[simp] theorem bLen_s (xs : List Int) : bLen [.d (scr xs)] = .ok (.d (.int xs.length)) := by
  show okI ((xs.map PyData.int).length : Int) = _
  rw [List.length_map]
  rfl
@[simp] theorem bInt_i (i : Int) : bInt [.d (.int i)] = .ok (.d (.int i)) := (rfl)
@[simp] theorem bInt_b (i : Bool) : bInt [.d (.bool i)] = .ok (.d (.int (if i then 1 else 0))) := (rfl)
@[simp] theorem bList_t (xs : List D) : bList [.d (.tuple xs)] = .ok (.fr xs) := (rfl)
@[simp] theorem bList_l (xs : List D) : bList [.d (.list xs)] = .ok (.fr xs) := (rfl)
@[simp] theorem bList_f (xs : List D) : bList [.fr xs] = .ok (.fr xs) := (rfl)
@[simp] theorem bList_o (xs : List D) : bList [.own xs] = .ok (.fr xs) := (rfl)
@[simp] theorem bTuple_t (xs : List D) : bTuple [.d (.tuple xs)] = .ok (.d (.tuple xs)) := (rfl)
@[simp] theorem bTuple_l (xs : List D) : bTuple [.d (.list xs)] = .ok (.d (.tuple xs)) := (rfl)
@[simp] theorem bTuple_f (xs : List D) : bTuple [.fr xs] = .ok (.d (.tuple xs)) := (rfl)
@[simp] theorem bTuple_o (xs : List D) : bTuple [.own xs] = .ok (.d (.tuple xs)) := (rfl)
@[simp] theorem bMax_2 (i j : Int) : bMax [.d (.int i), .d (.int j)] = .ok (.d (.int (if j > i then j else i))) := (rfl)
@[simp] theorem bMin_2 (i j : Int) : bMin [.d (.int i), .d (.int j)] = .ok (.d (.int (if j < i then j else i))) := (rfl)
theorem intsOf_map : ∀ ns : List Int, intsOf (ns.map .int) = some ns
  | [] => rfl
  | n :: ns => by
    show (intsOf (ns.map .int)).map (n :: ·) = _
    rw [intsOf_map ns]
    rfl
theorem boolsOf_map : ∀ ns : List Bool, boolsOf (ns.map .bool) = some ns
  | [] => rfl
  | n :: ns => by
    show (boolsOf (ns.map .bool)).map (n :: ·) = _
    rw [boolsOf_map ns]
    rfl
@[simp] theorem bSum_t (ns : List Int) : bSum2 [.d (.tuple (ns.map .int))] = .ok (.d (.int ns.sum)) := by
  simp [bSum2, intsOf_map, okI]
@[simp] theorem bSum_f (ns : List Int) : bSum2 [.fr (ns.map .int)] = .ok (.d (.int ns.sum)) := by
  simp [bSum2, intsOf_map, okI]
@[simp] theorem bSum_l (ns : List Int) : bSum2 [.d (.list (ns.map .int))] = .ok (.d (.int ns.sum)) := by
  simp [bSum2, intsOf_map, okI]
@[simp] theorem bAll_f (ns : List Bool) : bAll [.fr (ns.map .bool)] = .ok (.d (.bool (ns.all id))) := by
  simp [bAll, rdBools, boolsOf_map, okB]
@[simp] theorem bAny_f (ns : List Bool) : bAny [.fr (ns.map .bool)] = .ok (.d (.bool (ns.any id))) := by
  simp [bAny, rdBools, boolsOf_map, okB]
@[simp] theorem isi_ap (T : Str) (x : D) : opIsi T (.d x) = (match x with
  | .dict _ => .stuck
  | d => okB (isiD T d)) := by
  cases x <;> rfl
/-! indexing -/
theorem at_nat {α : Type} {xs : List α} {k : Nat} {x : α} (h : xs[k]? = some x) : atI xs (k : Int) = some x := by
  obtain ⟨hl, _⟩ := List.getElem?_eq_some_iff.mp h
  have e : ixN xs.length (k : Int) = some k := by
    unfold ixN
    rw [if_pos (by omega), if_pos (by omega), Int.toNat_natCast]
  unfold atI
  rw [e]
  exact h
theorem ixN_nat {n k : Nat} (h : k < n) : ixN n (k : Int) = some k := by
  unfold ixN
  rw [if_pos (by omega), if_pos (by omega), Int.toNat_natCast]
def ix1 : Option D → M L
  | some x => .ok (.d x)
  | none => .stuck
@[simp] theorem ix1_some (x : D) : ix1 (some x) = .ok (.d x) := (rfl)
@[simp] theorem ix_t (xs : List D) (i : Int) : opIx (.d (.tuple xs)) (.d (.int i)) = ix1 (atI xs i) := by
  show (match atI xs i with
    | some x => (.ok (.d x) : M L)
    | none => .stuck) = _
  cases atI xs i <;> rfl
@[simp] theorem ix_l (xs : List D) (i : Int) : opIx (.d (.list xs)) (.d (.int i)) = ix1 (atI xs i) := by
  show (match atI xs i with
    | some x => (.ok (.d x) : M L)
    | none => .stuck) = _
  cases atI xs i <;> rfl
@[simp] theorem ix_f (xs : List D) (i : Int) : opIx (.fr xs) (.d (.int i)) = ix1 (atI xs i) := by
  show (match atI xs i with
    | some x => (.ok (.d x) : M L)
    | none => .stuck) = _
  cases atI xs i <;> rfl
@[simp] theorem ix_o (xs : List D) (i : Int) : opIx (.own xs) (.d (.int i)) = ix1 (atI xs i) := by
  show (match atI xs i with
    | some x => (.ok (.d x) : M L)
    | none => .stuck) = _
  cases atI xs i <;> rfl
@[simp] theorem ix_s (xs : List Int) (i : Int) : opIx (.d (scr xs)) (.d (.int i)) = ix1 (atI (xs.map .int) i) := by
  show (match atI (xs.map PyData.int) i with
    | some x => (.ok (.d x) : M L)
    | none => .stuck) = _
  cases atI (xs.map PyData.int) i <;> rfl
theorem ixD1_some (d : D) : ixD1 (some d) = .ok (.d d) := (rfl)
theorem ix_dic (ks : List Key) (ds : List D) (i : Int) : opIx (.d (dicD ks ds)) (.d (.int i)) = ixD1 (getK ks ds (.inl i)) := by
  have e : L.dict (.d (dicD ks ds)) = some (ks, ds) := by
    show (keysOf (ks.map kD)).map _ = _
    rw [keysOf_map]
    rfl
  unfold opIx
  rw [e]
  rfl
theorem ix_dc (ks : List Key) (ds : List D) (i : Int) : opIx (.dc ks ds) (.d (.int i)) = ixD1 (getK ks ds (.inl i)) := (rfl)
@[simp] theorem at_0 {α : Type} (x : α) (xs : List α) : atI (x :: xs) 0 = some x := at_nat (k := 0) rfl
@[simp] theorem at_1 {α : Type} (x y : α) (xs : List α) : atI (x :: y :: xs) 1 = some y := at_nat (k := 1) rfl
@[simp] theorem at_2 {α : Type} (x y z : α) (xs : List α) : atI (x :: y :: z :: xs) 2 = some z := at_nat (k := 2) rfl
/-! slices -/
theorem ap_oNone (env : List L) : oNone env = .ok none := (rfl)
def o1 : L → M (Option Int)
  | .d (.int i) => .ok (some i)
  | _ => .stuck
@[simp] theorem o1_i (i : Int) : o1 (.d (.int i)) = .ok (some i) := (rfl)
theorem ap_oSome (f : EF) (env : List L) : oSome f env = (f env).bind o1 := (rfl)
theorem ap_eSl (f : EF) (lo hi : OF) (env : List L) : eSl f lo hi env = (f env).bind fun a => (lo env).bind fun l => (hi env).bind fun h => opSl a l h := (rfl)
@[simp] theorem sl_t (xs : List D) (lo hi : Option Int) : opSl (.d (.tuple xs)) lo hi = .ok (.d (.tuple (cutD xs lo hi))) := (rfl)
@[simp] theorem sl_l (xs : List D) (lo hi : Option Int) : opSl (.d (.list xs)) lo hi = .ok (.fr (cutD xs lo hi)) := (rfl)
@[simp] theorem sl_f (xs : List D) (lo hi : Option Int) : opSl (.fr xs) lo hi = .ok (.fr (cutD xs lo hi)) := (rfl)
@[simp] theorem sl_o (xs : List D) (lo hi : Option Int) : opSl (.own xs) lo hi = .ok (.fr (cutD xs lo hi)) := (rfl)
theorem cut_to (xs : List D) (k : Nat) : cutD xs none (some (k : Int)) = xs.take k := by
  unfold cutD
  rw [HT.sIx_none, HT.sIx_nat, List.drop_zero, Nat.sub_zero]
  by_cases h : k ≤ xs.length
  · rw [Nat.min_eq_left h]
  · rw [Nat.min_eq_right (by omega), List.take_of_length_le (Nat.le_refl _), List.take_of_length_le (by omega)]
theorem cut_from (xs : List D) (k : Nat) : cutD xs (some (k : Int)) none = xs.drop k := by
  unfold cutD
  rw [HT.sIx_none, HT.sIx_nat]
  by_cases h : k ≤ xs.length
  · rw [Nat.min_eq_left h]
    exact List.take_of_length_le (by simp)
  · rw [Nat.min_eq_right (by omega)]
    rw [List.drop_of_length_le (by omega : xs.length ≤ xs.length), List.drop_of_length_le (by omega : xs.length ≤ k)]
    simp
theorem cut_init (xs : List D) : cutD xs none (some (-1)) = xs.dropLast := by
  unfold cutD
  rw [HT.sIx_none, List.drop_zero, Nat.sub_zero, List.dropLast_eq_take]
  unfold HT.sIx
  dsimp only
  rw [if_pos (show (-1 : Int) < 0 by decide)]
  congr 1
  omega
/-! ### iterables -/
@[simp] theorem itL_t (xs : List D) : itL (.d (.tuple xs)) = .ok xs := (rfl)
@[simp] theorem itL_l (xs : List D) : itL (.d (.list xs)) = .ok xs := (rfl)
theorem ap_iEx (f : EF) (env : List L) : iEx f env = (f env).bind fun l => (fzL l).bind itL := (rfl)
theorem ap_iEn (f : EF) (env : List L) : iEn f env = (f env).bind fun l => (fzL l).bind fun l => (itL l).bind fun xs => .ok (enumD 0 xs) := (rfl)
theorem ap_iZp (f g : EF) (env : List L) : iZp f g env = (f env).bind fun a => (fzL a).bind fun a => (g env).bind fun b => (fzL b).bind fun b => zipL a b := (rfl)
@[simp] theorem zipL_t (xs ys : List D) : zipL (.d (.tuple xs)) (.d (.tuple ys)) = .ok (zipD xs ys) := (rfl)
@[simp] theorem zipL_lt (xs ys : List D) : zipL (.d (.list xs)) (.d (.tuple ys)) = .ok (zipD xs ys) := (rfl)
@[simp] theorem zipL_l (xs ys : List D) : zipL (.d (.list xs)) (.d (.list ys)) = .ok (zipD xs ys) := (rfl)
theorem ap_iR1 (f : EF) (env : List L) : iR1 f env = (f env).bind (int1 fun j => if b62 j = true then .ok (rngD 0 j.toNat) else .stuck) := (rfl)
theorem ap_iR2 (f g : EF) (env : List L) : iR2 f g env = (f env).bind fun a => (g env).bind fun b => int1 (fun i => int1 (fun j => if b62 i = true ∧ b62 j = true then .ok (rngD i (j - i).toNat) else .stuck) b) a := (rfl)
@[simp] theorem int1_i (f : Int → M (List D)) (i : Int) : int1 f (.d (.int i)) = f i := (rfl)
theorem b62_in {i : Int} (h1 : -100000000 ≤ i) (h2 : i ≤ 100000000) : b62 i = true := by
  unfold b62
  rw [decide_eq_true (by omega), decide_eq_true (by omega)]
  rfl
theorem rng0 (n : Nat) : rngD 0 n = (List.range n).map fun i => .int (i : Nat) := by
  unfold rngD
  congr 1
  funext i
  rw [Int.zero_add]
/-! ### targets -/
theorem ap_gNm (i : Nat) (x : D) (env : List L) : gNm i x env = .ok (env.set i (.d x)) := (rfl)
theorem ap_gTp (gs : List GF) (xs : List D) (env : List L) : gTp gs (.tuple xs) env = gAll gs xs env := (rfl)
theorem ap_gAll_nil (env : List L) : gAll [] [] env = .ok env := (rfl)
theorem ap_gAll (g : GF) (gs : List GF) (x : D) (xs : List D) (env : List L) : gAll (g :: gs) (x :: xs) env = (g x env).bind fun env => gAll gs xs env := (rfl)
/-! ### comprehensions -/
theorem lcGo_filter {α : Type} {g : GF} {t : TF} {el : EF} {env : List L} (enc : α → D) (p : α → Bool) (F : α → D) : ∀ {xs : List α},
    (∀ x ∈ xs, ∃ e2, g (enc x) env = .ok e2 ∧ t e2 = .ok (p x) ∧ (p x = true → ∃ l, el e2 = .ok l ∧ l.fz = .ok (F x))) → lcGo g t el env (xs.map enc) = .ok ((xs.filter p).map F)
  | [], _ => rfl
  | x :: xs, h => by
    obtain ⟨e2, h1, h2, h3⟩ := h x (List.mem_cons_self ..)
    have ih := lcGo_filter enc p F fun y hy => h y (List.mem_cons_of_mem _ hy)
    show (match lcOne g t el env (enc x) with
      | .ok ys => (match lcGo g t el env (xs.map enc) with
        | .ok zs => (.ok (ys ++ zs) : M (List D))
        | _ => .stuck)
      | _ => .stuck) = _
    cases hp : p x with
    | true =>
      obtain ⟨l, h4, h5⟩ := h3 hp
      have e : lcOne g t el env (enc x) = .ok [F x] := by
        unfold lcOne
        simp only [h1, h2, hp, h4, h5]
      rw [e, ih, List.filter_cons_of_pos (by rw [hp])]
      rfl
    | false =>
      have e : lcOne g t el env (enc x) = .ok [] := by
        unfold lcOne
        simp only [h1, h2, hp]
      rw [e, ih, List.filter_cons_of_neg (by rw [hp]; simp)]
      rfl
theorem bind_fz {m : M L} {d : D} (h : m.bind L.fz = .ok d) : ∃ l, m = .ok l ∧ l.fz = .ok d := by
  cases m with
  | stuck => cases h
  | ex c => cases h
  | ok l => exact ⟨l, rfl, h⟩
theorem eLc_filter {α : Type} {own : List Nat} {it : IF} {g : GF} {t : TF} {el : EF} {env : List L} {ds : List D} (enc : α → D) (p : α → Bool) (F : α → D) {xs : List α} (hit : it env = .ok ds) (hd : ds = xs.map enc) (hl : xs.length ≤ cap)
    (h : ∀ x ∈ xs, ∃ e2, g (enc x) (wipeE env own) = .ok e2 ∧ t e2 = .ok (p x) ∧ (p x = true → (el e2).bind L.fz = .ok (F x))) : eLc own it g t el env = .ok (.fr ((xs.filter p).map F)) := by
  subst hd
  unfold eLc
  rw [hit, M.ok_bind, List.length_map, if_pos hl, lcGo_filter enc p F fun x hx => ?_]
  obtain ⟨e2, h1, h2, h3⟩ := h x hx
  exact ⟨e2, h1, h2, fun hp => bind_fz (h3 hp)⟩
theorem eLc_map {α : Type} {own : List Nat} {it : IF} {g : GF} {el : EF} {env : List L} {ds : List D} (enc : α → D) (F : α → D) {xs : List α} (hit : it env = .ok ds) (hd : ds = xs.map enc) (hl : xs.length ≤ cap)
    (h : ∀ x ∈ xs, ∃ e2, g (enc x) (wipeE env own) = .ok e2 ∧ (el e2).bind L.fz = .ok (F x)) : eLc own it g tTrue el env = .ok (.fr (xs.map F)) := by
  rw [eLc_filter enc (fun _ => true) F hit hd hl fun x hx => ?_, List.filter_eq_self.mpr fun _ _ => rfl]
  obtain ⟨e2, h1, h2⟩ := h x hx
  exact ⟨e2, h1, rfl, fun _ => h2⟩
/-! ### loops -/
theorem forGo_inv {g : GF} {body : SF} (I : Nat → List L → Prop) : ∀ {xs : List D} {n : Nat} {env : List L}, (∀ i x env, xs[i]? = some x → I (n + i) env → ∃ e2 e3, g x env = .ok e2 ∧ (body e2 = .ok (.nx e3) ∨ body e2 = .ok (.ct e3)) ∧ I (n + i + 1) e3) → I n env →
    ∃ e, forGo g body xs env = .ok (.nx e) ∧ I (n + xs.length) e
  | [], n, env, _, h => ⟨env, rfl, h⟩
  | x :: xs, n, env, hs, h => by
    obtain ⟨e2, e3, h1, h2, h3⟩ := hs 0 x env rfl h
    have ih := forGo_inv I (xs := xs) (n := n + 1) (env := e3) (fun i y env hy hi => by
      have e : n + 1 + i = n + (i + 1) := by omega
      rw [e] at hi ⊢
      exact hs (i + 1) y env (by simpa using hy) hi) h3
    obtain ⟨e, h4, h5⟩ := ih
    refine ⟨e, ?_, by rw [List.length_cons]; have q : n + 1 + xs.length = n + (xs.length + 1) := by omega
                      rw [← q]; exact h5⟩
    unfold forGo
    rw [h1]
    rcases h2 with h2 | h2 <;> simp only [h2] <;> exact h4
theorem forGo_fold {σ : Type} {g : GF} {body : SF} (V : σ → List L) (st : σ → D → σ) : ∀ {xs : List D} {s : σ}, (∀ s x, x ∈ xs → ∃ e2, g x (V s) = .ok e2 ∧ (body e2 = .ok (.nx (V (st s x))) ∨ body e2 = .ok (.ct (V (st s x))))) →
    forGo g body xs (V s) = .ok (.nx (V (xs.foldl st s)))
  | [], s, _ => rfl
  | x :: xs, s, h => by
    obtain ⟨e2, h1, h2⟩ := h s x (List.mem_cons_self ..)
    have ih := forGo_fold V st (xs := xs) (s := st s x) fun s y hy => h s y (List.mem_cons_of_mem _ hy)
    unfold forGo
    rw [h1]
    rcases h2 with h2 | h2 <;> simp only [h2] <;> exact ih
/-- a loop over items of a Lean type, its state of a Lean type -/
theorem forGo_T {α σ : Type} {g : GF} {body : SF} (enc : α → D) (V : σ → List L) (st : σ → α → σ) (P : Nat → σ → Prop) : ∀ {xs : List α} {n : Nat} {s : σ}, P n s → (∀ i s x, xs[i]? = some x → P (n + i) s → ∃ e2, g (enc x) (V s) = .ok e2 ∧ (body e2 = .ok (.nx (V (st s x))) ∨ body e2 = .ok (.ct (V (st s x)))) ∧ P (n + i + 1) (st s x)) →
    forGo g body (xs.map enc) (V s) = .ok (.nx (V (xs.foldl st s))) ∧ P (n + xs.length) (xs.foldl st s)
  | [], n, s, hp, _ => ⟨rfl, hp⟩
  | x :: xs, n, s, hp, h => by
    obtain ⟨e2, h1, h2, h3⟩ := h 0 s x rfl hp
    obtain ⟨i1, i2⟩ := forGo_T enc V st P (xs := xs) (n := n + 1) (s := st s x) h3 fun i s y hy hq => by
      have e : n + 1 + i = n + (i + 1) := by omega
      rw [e] at hq ⊢
      exact h (i + 1) s y (by simpa using hy) hq
    refine ⟨?_, by
      have q : n + 1 + xs.length = n + (xs.length + 1) := by omega
      rw [q] at i2
      exact i2⟩
    rw [List.map_cons]
    unfold forGo
    rw [h1]
    rcases h2 with h2 | h2 <;> simp only [h2] <;> exact i1
theorem forGo_F {α σ : Type} {g : GF} {body : SF} (enc : α → D) (V : σ → List L) (st : σ → α → σ) {xs : List α} {s : σ} (h : ∀ s x, x ∈ xs → ∃ e2, g (enc x) (V s) = .ok e2 ∧ (body e2 = .ok (.nx (V (st s x))) ∨ body e2 = .ok (.ct (V (st s x))))) :
    forGo g body (xs.map enc) (V s) = .ok (.nx (V (xs.foldl st s))) :=
  (forGo_T (n := 0) enc V st (fun _ _ => True) trivial fun i s x hx _ => by
    obtain ⟨e2, h1, h2⟩ := h s x (List.mem_of_getElem? hx)
    exact ⟨e2, h1, h2, trivial⟩).1
theorem ap_semF (n : Nat) (f : SF) (ds : List D) : semF n f ds = (f (startL n ds)).bind semR := (rfl)
@[simp] theorem semR_nx (e : List L) : semR (.nx e) = .ok .none := (rfl)
@[simp] theorem semR_rt (d : D) : semR (.rt d) = .ok d := (rfl)
end PD
/-! data with a Lean type -/
namespace PD
open PySem PySem.Spec PyProof.Rows L2
class Dt (α : Type) [DecidableEq α] where
  D : α → PyData
  dep : Nat
  le : ∀ a, (D a).depth ≤ dep
  lay : ∀ a, (D a).canLay0 = true
  eqv : ∀ a b, PyData.eqv (D a) (D b) = decide (a = b)
  un : ∀ a, unS (D a) = D a
theorem beq_dec {α : Type} [BEq α] [LawfulBEq α] [DecidableEq α] (a b : α) : (a == b) = decide (a = b) := by
  rw [Bool.eq_iff_iff, beq_iff_eq, decide_eq_true_eq]
instance : Dt Int where
  D := .int
  dep := 0
  le _ := Nat.le_refl _
  lay _ := rfl
  eqv a b := by simp only [PyData.eqv]; exact beq_dec a b
  un _ := rfl
instance : Dt Nat where
  D n := .int n
  dep := 0
  le _ := Nat.le_refl _
  lay _ := rfl
  eqv a b := by
    simp only [PyData.eqv]
    rw [beq_dec]
    exact decide_eq_decide.mpr Int.ofNat_inj
  un _ := rfl
instance : Dt Bool where
  D := .bool
  dep := 0
  le _ := Nat.le_refl _
  lay _ := rfl
  eqv a b := by simp only [PyData.eqv]; exact beq_dec a b
  un _ := rfl
section
variable {α β γ : Type} [DecidableEq α] [DecidableEq β] [DecidableEq γ] [Dt α] [Dt β] [Dt γ]
theorem dep_all : ∀ xs : List α, PyData.depthAll (xs.map Dt.D) ≤ Dt.dep α
  | [] => Nat.zero_le _
  | x :: xs => by
    rw [List.map_cons, PyData.depthAll]
    exact Nat.max_le.mpr ⟨Dt.le x, dep_all xs⟩
theorem lay_all : ∀ xs : List α, PyData.canLayAll0 (xs.map Dt.D) = true
  | [] => rfl
  | x :: xs => by rw [List.map_cons, PyData.canLayAll0, Dt.lay x, lay_all xs]; rfl
theorem eqv_all : ∀ xs ys : List α, PyData.eqvAll (xs.map Dt.D) (ys.map Dt.D) = decide (xs = ys)
  | [], [] => by simp only [List.map_nil, PyData.eqvAll, decide_true]
  | [], _ :: _ => by simp [PyData.eqvAll]
  | _ :: _, [] => by simp [PyData.eqvAll]
  | x :: xs, y :: ys => by
    rw [List.map_cons, List.map_cons, PyData.eqvAll, Dt.eqv x y, eqv_all xs ys, ← Bool.decide_and]
    exact decide_eq_decide.mpr (by rw [List.cons.injEq])
/-- a list -/
instance : Dt (List α) where
  D xs := .list (xs.map Dt.D)
  dep := Dt.dep α + 1
  le xs := by simp only [PyData.depth]; have := dep_all xs; omega
  lay xs := by simp only [PyData.canLay0]; exact lay_all xs
  eqv xs ys := by simp only [PyData.eqv]; exact eqv_all xs ys
  un _ := rfl
/-- a tuple of one type -/
structure Tp (α : Type) where
  l : List α
deriving DecidableEq
instance : Dt (Tp α) where
  D xs := .tuple (xs.l.map Dt.D)
  dep := Dt.dep α + 1
  le xs := by simp only [PyData.depth]; have := dep_all xs.l; omega
  lay xs := by simp only [PyData.canLay0]; exact lay_all xs.l
  eqv xs ys := by
    simp only [PyData.eqv]
    rw [eqv_all]
    exact decide_eq_decide.mpr ⟨fun h => by cases xs; cases ys; simp at h; rw [h], fun h => by rw [h]⟩
  un _ := rfl
/-- a pair -/
instance : Dt (α × β) where
  D p := .tuple [Dt.D p.1, Dt.D p.2]
  dep := max (Dt.dep α) (Dt.dep β) + 1
  le p := by
    simp only [PyData.depth, PyData.depthAll]
    have h1 := Dt.le p.1
    have h2 := Dt.le p.2
    omega
  lay p := by simp only [PyData.canLay0, PyData.canLayAll0, Dt.lay]; rfl
  eqv p q := by
    simp only [PyData.eqv, PyData.eqvAll, Dt.eqv, Bool.and_true]
    rw [← Bool.decide_and]
    exact decide_eq_decide.mpr Prod.ext_iff.symm
  un _ := rfl
/-- three -/
structure T3 (α β γ : Type) where
  a : α
  b : β
  c : γ
deriving DecidableEq
instance : Dt (T3 α β γ) where
  D p := .tuple [Dt.D p.a, Dt.D p.b, Dt.D p.c]
  dep := max (Dt.dep α) (max (Dt.dep β) (Dt.dep γ)) + 1
  le p := by
    simp only [PyData.depth, PyData.depthAll]
    have h1 := Dt.le p.a
    have h2 := Dt.le p.b
    have h3 := Dt.le p.c
    omega
  lay p := by simp only [PyData.canLay0, PyData.canLayAll0, Dt.lay]; rfl
  eqv p q := by
    simp only [PyData.eqv, PyData.eqvAll, Dt.eqv, Bool.and_true]
    rw [← Bool.decide_and, ← Bool.decide_and]
    exact decide_eq_decide.mpr ⟨fun ⟨h1, h2, h3⟩ => by cases p; cases q; simp at h1 h2 h3; rw [h1, h2, h3], fun h => by rw [h]; exact ⟨rfl, rfl, rfl⟩⟩
  un _ := rfl
theorem shaped_D (h : Dt.dep α ≤ 64) (a : α) : SeqAt.shaped (Dt.D a) = true := by
  unfold SeqAt.shaped
  rw [Dt.lay, decide_eq_true (Nat.le_trans (Dt.le a) h)]
  rfl
theorem eq2_D (h : Dt.dep α ≤ 64) (neg : Bool) (a b : α) : opEq2 neg (.ok (Dt.D a)) (.ok (Dt.D b)) = .ok (.d (.bool (if neg then !decide (a = b) else decide (a = b)))) := by
  unfold opEq2
  simp only [Dt.un, shaped_D h, and_self, if_true, Dt.eqv]
  rfl
/-- x == y -/
theorem eq_D {x y : L} {a b : α} (h : Dt.dep α ≤ 64) (hx : x.rd = .ok (Dt.D a)) (hy : y.rd = .ok (Dt.D b)) : opEq false x y = .ok (.d (.bool (decide (a = b)))) := by
  unfold opEq
  rw [hx, hy, eq2_D h]
  rfl
theorem ne_D {x y : L} {a b : α} (h : Dt.dep α ≤ 64) (hx : x.rd = .ok (Dt.D a)) (hy : y.rd = .ok (Dt.D b)) : opEq true x y = .ok (.d (.bool (!decide (a = b)))) := by
  unfold opEq
  rw [hx, hy, eq2_D h]
  rfl
theorem any_D (a : α) : ∀ ys : List α, ((ys.map Dt.D).any fun z => PyData.eqv z (Dt.D a)) = decide (a ∈ ys)
  | [] => by simp
  | y :: ys => by
    rw [List.map_cons, List.any_cons, any_D a ys, Dt.eqv, ← Bool.decide_or]
    exact decide_eq_decide.mpr (by rw [List.mem_cons, eq_comm])
/-- x in a list -/
theorem in_D {x y : L} {a : α} {ys : List α} (h : Dt.dep α ≤ 63) (hx : x.rd = .ok (Dt.D a)) (hy : y.rd = .ok (.list (ys.map Dt.D))) : opIn false x y = .ok (.d (.bool (decide (a ∈ ys)))) := by
  unfold opIn
  rw [hx, hy]
  show (if SeqAt.shaped (Dt.D a) = true ∧ SeqAt.shaped (.list (ys.map Dt.D)) = true then okB ((ys.map Dt.D).any fun z => PyData.eqv z (Dt.D a)) else .stuck) = _
  rw [if_pos ⟨shaped_D (by omega) a, shaped_D (α := List α) (show Dt.dep α + 1 ≤ 64 by omega) ys⟩, any_D]
  rfl
theorem notin_D {x y : L} {a : α} {ys : List α} (h : Dt.dep α ≤ 63) (hx : x.rd = .ok (Dt.D a)) (hy : y.rd = .ok (.list (ys.map Dt.D))) : opIn true x y = .ok (.d (.bool (!decide (a ∈ ys)))) := by
  unfold opIn
  rw [hx, hy]
  show (if SeqAt.shaped (Dt.D a) = true ∧ SeqAt.shaped (.list (ys.map Dt.D)) = true then okB (!(ys.map Dt.D).any fun z => PyData.eqv z (Dt.D a)) else .stuck) = _
  rw [if_pos ⟨shaped_D (by omega) a, shaped_D (α := List α) (show Dt.dep α + 1 ≤ 64 by omega) ys⟩, any_D]
  rfl
theorem notin_mem {x y : L} {a : α} {ys : List α} (h : Dt.dep α ≤ 63) (hx : x.rd = .ok (Dt.D a)) (hy : y.rd = .ok (.list (ys.map Dt.D))) (hm : a ∈ ys) : opIn true x y = .ok (.d (.bool false)) := by
  rw [notin_D h hx hy, decide_eq_true hm]
  rfl
theorem notin_not {x y : L} {a : α} {ys : List α} (h : Dt.dep α ≤ 63) (hx : x.rd = .ok (Dt.D a)) (hy : y.rd = .ok (.list (ys.map Dt.D))) (hm : a ∉ ys) : opIn true x y = .ok (.d (.bool true)) := by
  rw [notin_D h hx hy, decide_eq_false hm]
  rfl
theorem in_mem {x y : L} {a : α} {ys : List α} (h : Dt.dep α ≤ 63) (hx : x.rd = .ok (Dt.D a)) (hy : y.rd = .ok (.list (ys.map Dt.D))) (hm : a ∈ ys) : opIn false x y = .ok (.d (.bool true)) := by
  rw [in_D h hx hy, decide_eq_true hm]
theorem in_not {x y : L} {a : α} {ys : List α} (h : Dt.dep α ≤ 63) (hx : x.rd = .ok (Dt.D a)) (hy : y.rd = .ok (.list (ys.map Dt.D))) (hm : a ∉ ys) : opIn false x y = .ok (.d (.bool false)) := by
  rw [in_D h hx hy, decide_eq_false hm]
end
/-- x in (y, z), whole numbers -/
theorem in_t2 (i j k : Int) : opIn false (.d (.int i)) (.d (.tuple [.int j, .int k])) = .ok (.d (.bool (decide (i = j ∨ i = k)))) := by
  show okB (PyData.eqv (.int j) (.int i) || (PyData.eqv (.int k) (.int i) || false)) = _
  simp only [PyData.eqv, beq_dec, Bool.or_false, ← Bool.decide_or]
  rw [show decide (j = i ∨ k = i) = decide (i = j ∨ i = k) from decide_eq_decide.mpr (by omega)]
  rfl
/-! more small facts -/
theorem isi_ii (i : Int) : opIsi "int" (.d (.int i)) = .ok (.d (.bool true)) := (rfl)
theorem isi_ib (i : Bool) : opIsi "int" (.d (.bool i)) = .ok (.d (.bool true)) := (rfl)
theorem isi_bi (i : Int) : opIsi "bool" (.d (.int i)) = .ok (.d (.bool false)) := (rfl)
theorem isi_bb (i : Bool) : opIsi "bool" (.d (.bool i)) = .ok (.d (.bool true)) := (rfl)
theorem isi_tt (xs : List PyData) : opIsi "tuple" (.d (.tuple xs)) = .ok (.d (.bool true)) := (rfl)
theorem isi_tl (xs : List PyData) : opIsi "tuple" (.d (.list xs)) = .ok (.d (.bool false)) := (rfl)
theorem isi_ll (xs : List PyData) : opIsi "list" (.d (.list xs)) = .ok (.d (.bool true)) := (rfl)
theorem isi_lt (xs : List PyData) : opIsi "list" (.d (.tuple xs)) = .ok (.d (.bool false)) := (rfl)
theorem isi_ss (x : Str) : opIsi "str" (.d (.str x)) = .ok (.d (.bool true)) := (rfl)
theorem and_d (b c : Bool) : (if b = true then (M.ok (L.d (.bool c)) : M L) else .ok (.d (.bool false))) = .ok (.d (.bool (b && c))) := by cases b <;> rfl
theorem or_d (b c : Bool) : (if b = true then (M.ok (L.d (.bool true)) : M L) else .ok (.d (.bool c))) = .ok (.d (.bool (b || c))) := by cases b <;> rfl
theorem and_b (b c : Bool) : (if b = true then (M.ok c : M Bool) else .ok false) = .ok (b && c) := by cases b <;> rfl
theorem or_b (b c : Bool) : (if b = true then (M.ok true : M Bool) else .ok c) = .ok (b || c) := by cases b <;> rfl
section
variable {α β γ : Type} [DecidableEq α] [DecidableEq β] [DecidableEq γ] [Dt α] [Dt β] [Dt γ]
theorem D_int (i : Int) : Dt.D i = PyData.int i := (rfl)
theorem D_nat (i : Nat) : Dt.D i = PyData.int (i : Int) := (rfl)
theorem D_bool (i : Bool) : Dt.D i = PyData.bool i := (rfl)
theorem D_pair (a : α) (b : β) : Dt.D (a, b) = PyData.tuple [Dt.D a, Dt.D b] := (rfl)
theorem D_t3 (a : α) (b : β) (c : γ) : Dt.D (T3.mk a b c) = PyData.tuple [Dt.D a, Dt.D b, Dt.D c] := (rfl)
theorem D_tp (l : List α) : Dt.D (Tp.mk l) = PyData.tuple (l.map Dt.D) := (rfl)
theorem D_list (l : List α) : Dt.D l = PyData.list (l.map Dt.D) := (rfl)
theorem D_fn_int : (Dt.D : Int → PyData) = .int := (rfl)
end
theorem zipD_map {α β : Type} (f : α → PyData) (g : β → PyData) : ∀ (xs : List α) (ys : List β), zipD (xs.map f) (ys.map g) = (xs.zip ys).map fun p => .tuple [f p.1, g p.2]
  | [], _ => by simp [zipD]
  | _ :: _, [] => by simp [zipD]
  | x :: xs, y :: ys => by
    show PyData.tuple [f x, g y] :: zipD (xs.map f) (ys.map g) = _
    rw [zipD_map f g xs ys]
    rfl
theorem enumD_map {α : Type} (f : α → PyData) : ∀ (n : Nat) (xs : List α), enumD n (xs.map f) = (xs.zipIdx n).map fun p => .tuple [.int (p.2 : Nat), f p.1]
  | _, [] => rfl
  | n, x :: xs => by
    show PyData.tuple [.int (n : Nat), f x] :: enumD (n + 1) (xs.map f) = _
    rw [enumD_map f (n + 1) xs]
    rfl
theorem lt_2 (a b c d : Int) : opLt (.d (.tuple [.int a, .int b])) (.d (.tuple [.int c, .int d])) = .ok (.d (.bool (decide (a < c ∨ (a = c ∧ b < d))))) := by
  show okB (HT.lexLt [a, b] [c, d]) = _
  simp only [HT.lexLt]
  by_cases h : a = c
  · subst h
    by_cases h2 : b = d
    · subst h2
      simp [okB]
    · simp [okB, h2]
  · simp [okB, h]
theorem bAll_p {α : Type} (p : α → Bool) (xs : List α) : bAll [.fr (xs.map fun x => .bool (p x))] = .ok (.d (.bool (xs.all p))) := by
  have e : (xs.map fun x => PyData.bool (p x)) = (xs.map p).map .bool := by rw [List.map_map]; rfl
  rw [e, bAll_f, List.all_map]
  rfl
theorem bAny_p {α : Type} (p : α → Bool) (xs : List α) : bAny [.fr (xs.map fun x => .bool (p x))] = .ok (.d (.bool (xs.any p))) := by
  have e : (xs.map fun x => PyData.bool (p x)) = (xs.map p).map .bool := by rw [List.map_map]; rfl
  rw [e, bAny_f, List.any_map]
  rfl
theorem bSum_p {α : Type} (p : α → Int) (xs : List α) : bSum2 [.fr (xs.map fun x => .int (p x))] = .ok (.d (.int (xs.map p).sum)) := by
  have e : (xs.map fun x => PyData.int (p x)) = (xs.map p).map .int := by rw [List.map_map]; rfl
  rw [e, bSum_f]
theorem all_T {α : Type} (xs : List α) : (xs.all fun _ => true) = true := by simp
theorem p64 : (2 : Int) ^ 64 = 18446744073709551616 := by decide
theorem mulK {i j : Int} (h1 : -18446744073709551616 < j) (h2 : j < 18446744073709551616) : opMulI i j = .ok (.d (.int (i * j))) :=
  mulI_r (by rw [p64]; exact h1) (by rw [p64]; exact h2)
theorem mulK' {i j : Int} (h1 : -18446744073709551616 < i) (h2 : i < 18446744073709551616) : opMulI i j = .ok (.d (.int (i * j))) :=
  mulI_l (by rw [p64]; exact h1) (by rw [p64]; exact h2)
theorem mid_of {i : Int} (h1 : -(10 ^ 100) < i) (h2 : i < 10 ^ 100) : i.natAbs < 2 ^ 500 := by
  have e : (2 : Nat) ^ 500 = 3273390607896141870013189696827599152216642046043064789483291368096133796404674554883270092325904157150886684127560071009217256545885393053328527589376 := by decide
  have e2 : (10 : Int) ^ 100 = 10000000000000000000000000000000000000000000000000000000000000000000000000000000000000000000000000000 := by decide
  rw [e]
  rw [e2] at h1 h2
  omega
theorem wipe_nil (env : List L) : wipeE env [] = env := (rfl)
theorem wipe_cons (env : List L) (v : Nat) (vs : List Nat) : wipeE env (v :: vs) = (wipeE env vs).set v .un := (rfl)
theorem cap_eq : cap = 100000 := rfl
theorem adj_of {α : Type} {R : α → α → Prop} : ∀ {xs : List α}, xs.Pairwise R → ∀ p ∈ xs.dropLast.zip (xs.drop 1), R p.1 p.2
  | [], _, p, h => by simp at h
  | [x], _, p, h => by simp at h
  | x :: y :: r, h, p, hp => by
    rw [List.pairwise_cons] at h
    have e : (x :: y :: r).dropLast.zip ((x :: y :: r).drop 1) = (x, y) :: (y :: r).dropLast.zip ((y :: r).drop 1) := rfl
    rw [e] at hp
    rcases List.mem_cons.mp hp with z | z
    · rw [z]
      exact h.1 y (List.mem_cons_self ..)
    · exact adj_of h.2 p z
end PD
/-! what a head tells, for the defs' readings -/
namespace PD
open PySem PySem.Spec PyProof.Rows L2
section
variable {S : Sys} {k : Nat}
theorem fns_nil : ∀ e ∈ ([] : List FnE), FnAt S k e.x e.n e.f := fun _ h => absurd h (by simp)
theorem fns_cons {x : Str} {n : Nat} {f : List PyData → M PyData} {l : List FnE} (h : FnAt S k x n f) (t : ∀ e ∈ l, FnAt S k e.x e.n e.f) : ∀ e ∈ (⟨x, n, f⟩ :: l : List FnE), FnAt S k e.x e.n e.f := fun e he => by
  rcases List.mem_cons.mp he with z | z
  · rw [z]; exact h
  · exact t e z
abbrev ConAt (S : Sys) (x : Str) (d : PyData) : Prop := ∃ v u, S.mg x = some u ∧ RelV v u ∧ ∀ G, DR S.K G v d
theorem con_nil : ∀ e ∈ ([] : List (Str × PyData)), ConAt S e.1 e.2 := fun _ h => absurd h (by simp)
theorem con_cons {x : Str} {d : PyData} {l : List (Str × PyData)} (h : ConAt S x d) (t : ∀ e ∈ l, ConAt S e.1 e.2) : ∀ e ∈ ((x, d) :: l), ConAt S e.1 e.2 := fun e he => by
  rcases List.mem_cons.mp he with z | z
  · rw [z]; exact h
  · exact t e z
theorem con_int {x : Str} {i : Int} (h : ∃ t, S.mg x = some (.int i t)) : ConAt S x (.int i) := by
  obtain ⟨t, h⟩ := h
  exact ⟨.int i, _, h, ⟨t, rfl⟩, fun G => .int i⟩
theorem exc_nil : ∀ x ∈ ([] : List Str), ExcAt S x := fun _ h => absurd h (by simp)
theorem exc_cons {x : Str} {l : List Str} (h : ExcAt S x) (t : ∀ x ∈ l, ExcAt S x) : ∀ y ∈ x :: l, ExcAt S y := fun e he => by
  rcases List.mem_cons.mp he with z | z
  · rw [z]; exact h
  · exact t e z
theorem blt_of {cc : CC} (h : ∀ x ∈ bltNames, S.mg x = none) : ∀ x ∈ bltNames, (∃ e ∈ cc.fns, e.x = x) ∨ S.mg x = none := fun x hx => .inr (h x hx)
end
/-- the system that a head tells of -/
abbrev sysOf (P : Program) (w : World) (K : Frg) (mg : Str → Option Value) (base : Heap) : Sys := ⟨P, w, K, mg, base, [], He.ga K⟩
theorem excAt_of {P : Program} {w : World} {K : Frg} {mg : Str → Option Value} {base : Heap} {x : Str} (g : mg x = some (.ref (He.ga K x))) (c : (He.Fa.exc x).ok K = true) : ExcAt (sysOf P w K mg base) x := by
  obtain ⟨c1, c2, c3, c4⟩ := He.exc_ok c
  exact ⟨g, c1, c2, c3, c4⟩
/-- what a law's def is asked -/
def spLaw (K : Frg) : Sp := fun vs H Q _ => ∃ (a : Addr) (ns : List Int), vs = [.ref a] ∧ L2.Only H ∧ SqL K H a (ns.map V.int) ∧ ns.length ≤ 63 ∧ ∀ H', Q (.bl true) H'
theorem spLaw_ok {P : Program} {w : World} {K : Frg} {mg : Str → Option Value} {base : Heap} {f : List PyData → M PyData} (hf : ∀ ns : List Int, ns.length ≤ 63 → f [scr ns] = .ok (.bool true)) (vs : List V) (H : Hp) (Q : VK) (E : XK) (h : spLaw K vs H Q E) :
    spD (sysOf P w K mg base) 1 f vs H Q E := by
  obtain ⟨a, ns, rfl, ho, hs, hl, q⟩ := h
  have sb : Sb H H := fun b o e => ⟨e, fun ps z => by
    rcases ho b with h1 | ⟨o', xs, h1⟩
    · rw [h1] at e; cases e
    · rw [h1] at e
      cases e
      cases z⟩
  refine ⟨H, [scr ns], rfl, sb, fun x hx => absurd hx (by simp), .cons (.scr hs) .nil, ?_⟩
  rw [hf ns hl]
  intro v G' H' gr r
  rw [DR.toBl r]
  exact q H'
/-- nothing gets out -/
theorem fnOk_calm {P : Program} {w : World} {K : Frg} {mg : Str → Option Value} {base : Heap} {k : Nat} {f : Addr} {fd : FuncData} {ps : List Str} {sp : Sp} (hE : ∀ vs H Q E E', sp vs H Q E → sp vs H Q E') (F : FnOk P w K mg base (L2N.CX P w) k f fd ps sp) : FnOk P w K mg base L2.CX0 k f fd ps sp := by
  refine ⟨F.len, fun A outer s H args us vs Q E hr e0 hb hv h => codeAny_mono (F.run A outer s H args us vs Q (fun _ _ _ => False) hr e0 hb hv (hE _ _ _ _ _ h)) fun r s' hq => ?_⟩
  cases r with
  | ok fl => cases fl <;> exact hq
  | error e =>
    obtain ⟨_, _, _, _, _, _, _, _, _, _, _, _, z⟩ := hq
    exact z.elim
end PD
/-! _law_told(lambda: ..): the deed's end, or the refusal's class -/
namespace PD
open PySem PySem.Spec PyProof.Rows L2 HotX L2H
def spW (p : Addr × Obj) (c : Str) : Sp := fun vs H Q _ => vs = [.ref p.1] ∧ ∀ H', Fr H H' → Q (.str c) H'
/-- the word's promise -/
structure WdAt (S : Sys) (k : Nat) (Cs : List Str) : Prop where
  ex : ∃ fw fdw, S.mg ("_law_word" : Str) = some (.ref fw) ∧ Binds S.K fdw ["_law_e"] [] ∧ PySem.W.keepIn S.K (.ref fw) = true ∧ ∀ c ∈ Cs, ∀ p : Addr × Obj, p.2.cls = .ref (S.ca c) → p.2.dict = none → PySem.W.notCls p.2 = true →
    FnP p S.P S.w S.K S.mg S.base (L2N.CX S.P S.w) k fw fdw ["_law_e"] (spW p c)
def tdB (q : Nat → Pos) : List Stmt := [.Try [.Return (some (.Call (.Name "_law_deed" (q 0)) [] [] (q 1))) (q 2)]
  [.ExceptHandler (some (.Name "LeagueError" (q 3))) (some "_law_e") [.Return (some (.Call (.Name "_law_word" (q 4)) [.Name "_law_e" (q 5)] [] (q 6))) (q 7)] (q 8)] [] [] (q 9)]
def NT : List Str := ["_law_deed", "_law_e"]
/-- the def itself -/
structure TdAt (S : Sys) (Cs : List Str) : Prop where
  ex : ∃ (g : Addr) (q : Nat → Pos) (pg : Arguments) (sg : Scope) (dV kV doc pm cdv ct oc : Value) (an od : Option Addr) (osl : Array (Option Value)), S.mg ("_law_told" : Str) = some (.ref g) ∧ PySem.W.keepIn S.K (.ref g) = true ∧
    S.K.lookup g = some ⟨oc, od, .func (PySem.W.fnOf "_law_told" "_law_told" pg (tdB q) sg dV kV doc pm an cdv ct), osl⟩ ∧ PySem.W.codeIn S.K cdv "_law_told" = true ∧ Binds S.K (PySem.W.fnOf "_law_told" "_law_told" pg (tdB q) sg dV kV doc pm an cdv ct) ["_law_deed"] [] ∧
    FnScope NT ["_law_deed"] sg ∧ sg.names.lookup ("_law_deed" : Str) = some .local ∧ sg.names.lookup ("_law_e" : Str) = some .local ∧ sg.names.lookup ("LeagueError" : Str) = some .globalImplicit ∧ sg.names.lookup ("_law_word" : Str) = some .globalImplicit
  le : ∃ CS, S.mg ("LeagueError" : Str) = some (.ref CS) ∧ ∀ c ∈ Cs, PySem.W.exmOne S.K (.ref (S.ca c)) (.ref CS) = some true
def noArgs : Arguments := ⟨[], [], none, [], [], none, []⟩
def lamSC (scope : Scope) : SC := ⟨scope, fun _ => false, false⟩
def eTold (Cs : List Str) (f : EF) : EF := fun env => match f env with
  | .stuck => .stuck
  | .ex c => if c ∈ Cs then .ok (.d (.str c)) else .stuck
  | .ok l => match l.fz with
    | .ok d => .ok (.d d)
    | _ => .stuck
def Ech (S : Sys) (Cs : List Str) (Q : VK) : XK := fun cls d H' => ∃ c ∈ Cs, cls = .ref (S.ca c) ∧ d = none ∧ ∀ H'', Fr H' H'' → Q (.str c) H''
theorem takes_len {X : Cx} {W : WX} (tk : L2N.Takes X W) : L2N.Takes X (fun cls d σ H => σ.length = X.N.length → W cls d σ H) := fun u s' ⟨a, B, sI, pins, σ, H, cls, d, e, I, nb, up, sky, na, os, ag, w⟩ =>
  tk u s' ⟨a, B, sI, pins, σ, H, cls, d, e, I, nb, up, sky, na, os, ag, w I.len⟩
theorem takes0N {X : Cx} : L2N.Takes X (fun _ _ _ _ => False) := fun _ _ x => by
  obtain ⟨_, _, _, _, _, _, _, _, _, _, _, _, _, _, _, _, z⟩ := x
  exact z.elim
theorem passAt0 {X : Cx} {σ : L2.St} : PassesAt (L2N.CX X.prog X.w) X σ (fun _ _ _ => False) := fun _ _ _ _ _ _ h => by
  obtain ⟨_, _, _, _, _, _, _, _, _, _, _, _, z⟩ := h
  exact z.elim
section
variable {S : Sys} {k j kw : Nat} {E : XK} {cc : CC} {sc : SC}
theorem told_pe {X : Cx} {Cs : List Str} {tE : XK → TE} {body : Expr} {scope : Scope} {p lpos pos : Pos} (hk : j + 2 ≤ k) (hkw : kw ≤ j + 1) (T : TdAt S Cs) (W : WdAt S kw Cs) (hlam : sc.lam = true) (hL : LamX.lamSB sc.sc scope = true) (hg : glB sc "_law_told" = true)
    (hb : ∀ (E : XK) (X : Cx), CtxOk S j E cc (lamSC scope) X → PE X body (tE E)) (c : CtxOk S k E cc sc X) :
    PE X (.Call (.Name "_law_told" p) [.Lambda noArgs body scope lpos] [] pos) (fun σ H Q => LamX.Tabs S.T H ∧ ∀ H1, LamX.ExtN H H1 → LamX.Tabs S.T H1 → (∀ p, H1 p = none → H p = none) → tE (Ech S Cs Q) σ H1 Q) := by
  obtain ⟨g1, g2, _⟩ := glB_ok c hg
  obtain ⟨cA, PA', hcode, TB, hmT, hu⟩ := c.lam hlam
  have hcN := c.N
  have hcnd := c.nd
  have hcroom := c.room
  have hcscp := c.scp
  obtain ⟨P, w, K, mg, base, A, N, s0, HH, env, outer, stack, ex, fn, calm, pn, xe⟩ := X
  obtain ⟨rfl, rfl, rfl, rfl, rfl, hN, nd, hc, hsc, hfn, room, pass, lam⟩ := c
  obtain ⟨g, q, pg, sg, dV, kV, doc, pm, cdv, ct, oc, an, od, osl, hm, hkp, lk, hcg, hbi, Sg, l1, l2, l3, l4⟩ := T.ex
  obtain ⟨CS, hCS, hexm⟩ := T.le
  obtain ⟨fw, fdw, hmw, hbw, hkw2, hw⟩ := W.ex
  have L : LamX.LamS env.scope scope := by
    rw [show env.scope = sc.sc from hsc]
    exact LamX.lamS_by hL
  refine ⟨fun pins s σ H Q I h => ?_⟩
  obtain ⟨hT, h⟩ := h
  refine wpAny_Call_Name_kw (ld_glob I g1 hm ?_ g2)
  refine PySem.W.callWith_K (h₀ := S.base) I.ok.mod.kin hkp ?_ (by rfl) (by rfl)
  refine Calls.spliced_cons (LamX.lam_make3 (T := S.T) (params := noArgs) I TB hcode hmT hu hT rfl (L.has I.ok) fun f c' pm' ctv H1 s' I1 eN T1 hf hfn hfr hco dm => ?_)
  refine Calls.spliced_nil ⟨I1.kIn, ?_⟩
  have rc : codeAny (model S.P S.w) A (.call (.ref g) ⟨[.ref f], []⟩) (CR C8.CX0 stack S.P S.w H1 s' Q C8.E0) s' := by
    refine LamX.run_ofS (k := j + 1) (N := NT) (ps := ["_law_deed"]) (us := [.ref f]) (vs := [.ref f]) lk hcg Sg (room.mono (by omega)) I1.env0 (hbi s' [.ref f] I1.kIn rfl) (.cons rfl .nil) rfl fun hr' => ?_
    let ts : Addr → Value → Option Addr → TS := fun a cls d D σ H => ∃ c ∈ Cs, cls = .ref (S.ca c) ∧ d = none ∧ σ[1]? = some (some (.ref a)) ∧ ∀ H', Fr H H' → D.rt (.str c) H'
    let tb : WX → TS := fun W D σZ HZ => ∃ Q' : VK, (∀ cls d σ' H', σ'.length = NT.length → Ech S Cs Q' cls d H' → W cls d σ' H') ∧ σZ[0]? = some (some (.ref f)) ∧ HZ c' = some (LamX.CodeO c' (env.qual ++ "<lambda>")) ∧ tE (Ech S Cs Q') σ HZ D.rt
    have hsu : ∀ (a : Addr) (oe : Obj) (cls : Value) (d : Option Addr) (pn : List (Addr × Obj)), L2N.Zn cls d oe → (∃ vs, oe.data = .fields vs) →
        PSs ((cxOf C8.CX0 S.P S.w S.K S.mg S.base NT "_law_told" sg g cdv A stack s' H1 C8.E0).nox.suite a ((a, oe) :: pn)) [.Return (some (.Call (.Name "_law_word" (q 4)) [.Name "_law_e" (q 5)] [] (q 6))) (q 7)] (ts a cls d) := by
      rintro a oe cls d pn hz ⟨vs, hd⟩
      refine ⟨fun pins s σ H D I h => ?_⟩
      obtain ⟨c, hc, e1, e2, e3, z⟩ := h
      have F := hw c hc (a, oe) (hz.1.trans e1) (hz.2.1.trans e2) (by show PySem.W.notCls oe = true; unfold PySem.W.notCls; rw [hd])
      have pe := pe_callP (X := (cxOf C8.CX0 S.P S.w S.K S.mg S.base NT "_law_told" sg g cdv A stack s' H1 C8.E0).nox.suite a ((a, oe) :: pn)) (x := "_law_word") (pos := q 6) (q := q 4) (E := fun _ _ _ _ => False) F
        (RoomH.mono (k := j + 1) ⟨hr'.dp, hr'.un⟩ hkw) ⟨⟨rfl, vs, hd, hz.2.2 vs hd⟩, List.mem_cons_self⟩ l4 hmw hkw2 hbw (fun σ => passAt0) (pa_cons (pe_var (x := "_law_e") (pos := q 5) (i := 1) rfl (.inl l2)) pa_nil)
      exact (pss_one (ps_ret (pos := q 7) pe)).run pins s σ H D I ⟨.ref a, e3, rfl, z⟩
    refine ⟨_, PSs.nox (pss_one (L2N.ps_try_as (X := (cxOf C8.CX0 S.P S.w S.K S.mg S.base NT "_law_told" sg g cdv A stack s' H1 C8.E0).nox) (Wout := fun _ _ _ _ => False) (i := 1) (c := .ref CS) (tb := tb) (ts := ts) rfl rfl (show NT.Nodup by decide) rfl l2 ⟨l3, by decide, .inl hCS⟩ takes0N (fun W pn xe tk po => ?_) hsu)), ?_⟩
    · refine ⟨fun pinsZ sZ σZ HZ D IZ hZ => ?_⟩
      obtain ⟨Q', hW, h1, h2, h3⟩ := hZ
      have hp := LamX.pe_actN (CXg := C8.CX0) (Eg := C8.E0) (Ng := NT) (qg := "_law_told") (sg := sg) (cdg := cdv) (g := g) (k := j) (i := 0) (a := "_law_deed") (pn := pn) (xe := xe) (p1 := q 0) (p2 := q 1) I1 L hf hfn hfr rfl (takes_len tk) (fun cls d σ' H' z e => hW cls d σ' H' e z) hr'
        (fun A' outer' s2 H2 hr2 => hb (Ech S Cs Q') _ ⟨rfl, rfl, rfl, rfl, rfl, hN, nd, rfl, rfl, rfl, hr2, L2N.passes_call (L2N.takes_of rfl rfl rfl rfl) fun _ _ _ _ h => h, fun z => nomatch z⟩) rfl (.inl l1)
      exact (pss_one (ps_ret (pos := q 2) hp)).run pinsZ sZ σZ HZ D IZ ⟨h1, h2, h3⟩
    · refine ⟨Q, fun cls d σ' H' hl he => ?_, rfl, hco, h H1 eN T1 dm⟩
      obtain ⟨c, hc, e1, e2, z⟩ := he
      refine ⟨true, by rw [e1]; exact hexm c hc, fun _ a na => ⟨c, hc, e1, e2, List.getElem?_set_self (by rw [hl]; decide), z⟩, fun z => nomatch z⟩
  refine wpAny_call (codeAny_mono rc fun r s2 hq => ?_)
  cases r with
  | error e => exact (show False from hq).elim
  | ok fl =>
    cases fl with
    | ret u => exact I1.after hq
    | next => exact False.elim hq
    | brk => exact False.elim hq
    | cont => exact False.elim hq
theorem ce_told {Cs : List Str} {f : EF} {body : Expr} {scope : Scope} {p lpos pos : Pos} (hk : j + 2 ≤ k) (hkw : kw ≤ j + 1) (T : TdAt S Cs) (W : WdAt S kw Cs) (hlam : sc.lam = true) (hL : LamX.lamSB sc.sc scope = true) (hg : glB sc "_law_told" = true)
    (hb : ∀ E, CE S j E cc (lamSC scope) body f) : CE S k E cc sc (.Call (.Name "_law_told" p) [.Lambda noArgs body scope lpos] [] pos) (eTold Cs f) := by
  refine ⟨_, fun X c => told_pe (tE := fun E => Classical.choose (hb E)) hk hkw T W hlam hL hg (fun E X cx => (Classical.choose_spec (hb E)).1 X cx) c, fun H0 G H σ env at0 => ?_⟩
  have gr1 : ∀ {H1}, LamX.ExtN H H1 → LamX.Tabs S.T H1 → (∀ p, H1 p = none → H p = none) → Gr S G H G H1 := fun {H1} eN T1 dm => ⟨eN, Xt.refl G, at0.sb.up eN, fun _ _ h => h, dm, fun _ => T1⟩
  have ev : ∀ Q {H1}, LamX.ExtN H H1 → LamX.Tabs S.T H1 → (∀ p, H1 p = none → H p = none) → EvW S (Ech S Cs Q) (Classical.choose (hb (Ech S Cs Q))) σ G H1 (f env) := fun Q {H1} eN T1 dm => (Classical.choose_spec (hb (Ech S Cs Q))).2 H0 G H1 σ env (at0.up (gr1 eN T1 dm))
  unfold eTold
  cases ef : f env with
  | stuck => exact True.intro
  | ex c =>
    rw [ef] at ev
    dsimp only
    split
    · rename_i hc
      refine fun Q hQ => ⟨at0.tb, fun H1 eN T1 dm => ev Q eN T1 dm Q fun G2 H2 gr => ⟨c, hc, rfl, rfl, fun H'' fr => ?_⟩⟩
      exact hQ (.str c) G2 H'' (((gr1 eN T1 dm).trans gr).trans (fr.gr gr.gh)) (DR.str c)
    · exact True.intro
  | ok l =>
    rw [ef] at ev
    dsimp only
    cases e1 : l.fz with
    | stuck => exact True.intro
    | ex c => exact True.intro
    | ok d =>
      refine fun Q hQ => ⟨at0.tb, fun H1 eN T1 dm => ev Q eN T1 dm Q fun v G2 H2 gr r => ?_⟩
      obtain ⟨G3, gr3, r3⟩ := r.fz gr e1
      exact hQ v G3 H2 ((gr1 eN T1 dm).trans gr3) r3
end
end PD
/-! readings with _law_told; what a head tells for them -/
namespace PD
open PySem PySem.Spec PyProof.Rows L2 HotX L2H
/-! ### the reader -/
def recNL (cc : CC) (Lr : SC → Expr → Option EF) : Nat → Rec
  | 0 => ⟨fun _ _ => none, fun _ _ => none⟩
  | n + 1 => ⟨fun sc e => match Lr sc e with
    | some f => some f
    | none => stepE cc (recNL cc Lr n) sc e, stepT cc (recNL cc Lr n)⟩
def isNoArgs : Arguments → Bool
  | ⟨[], [], none, [], [], none, []⟩ => true
  | _ => false
theorem isNoArgs_ok {a : Arguments} (h : isNoArgs a = true) : a = noArgs := by
  unfold isNoArgs at h
  split at h
  · rfl
  · cases h
def toldR (cc : CC) (Cs : List Str) (n : Nat) : SC → Expr → Option EF := fun sc e => match e with
  | .Call (.Name x _) [.Lambda params body scope _] [] _ => if x = "_law_told" ∧ (sc.lam && (isNoArgs params && (LamX.lamSB sc.sc scope && glB sc "_law_told"))) = true then ((recN cc n).E (lamSC scope) body).map (eTold Cs) else none
  | _ => none
section
variable {S : Sys} {k j kw : Nat} {E : XK} {cc : CC} {sc : SC}
theorem recNL_ok {Lr : SC → Expr → Option EF} (C : CcOk S k cc) (hL : ∀ E sc e f, Lr sc e = some f → CE S k E cc sc e f) : ∀ n, RecOk S k cc (recNL cc Lr n)
  | 0 => ⟨fun _ _ _ _ h => (by cases h), fun _ _ _ _ h => (by cases h)⟩
  | n + 1 => ⟨fun E sc e f h => by
      have h : (match Lr sc e with
        | some f => some f
        | none => stepE cc (recNL cc Lr n) sc e) = some f := h
      split at h
      · rename_i g e1
        cases h
        exact hL E sc e _ e1
      · exact stepE_ok C (recNL_ok C hL n) h, fun E sc e f h => stepT_ok C (recNL_ok C hL n) h⟩
theorem toldR_ok {Cs : List Str} {n : Nat} (hk : j + 2 ≤ k) (hkw : kw ≤ j + 1) (C : CcOk S j cc) (T : TdAt S Cs) (W : WdAt S kw Cs) (E : XK) (sc : SC) (e : Expr) (f : EF) (h : toldR cc Cs n sc e = some f) : CE S k E cc sc e f := by
  unfold toldR at h
  split at h
  · split at h
    · rename_i x p params body scope lpos pos hc
      obtain ⟨hx, hb⟩ := hc
      simp only [Bool.and_eq_true] at hb
      obtain ⟨h1, h2, h3, h4⟩ := hb
      obtain ⟨g, hg, rfl⟩ := map_ok h
      subst hx
      rw [isNoArgs_ok h2]
      exact ce_told hk hkw T W h1 h3 h4 fun E' => (recN_ok C n).e E' _ _ _ hg
    · cases h
  · cases h
/-- a def whose lambdas are told -/
theorem fnOk_ofL {x qual : Str} {params : Arguments} {body : List Stmt} {scope : Scope} {fa : Addr} {fd : FuncData} {ps : List Str} {exc : List Str} {fu d n : Nat} {f : SF} {Lr : SC → Expr → Option EF} (F : FunD S.K x qual params body scope [] [] fa fd)
    (hsc : FnScope cc.N ps scope) (hn : ps.length = n) (C : CcOk S k cc) (hL : ∀ E sc e f, Lr sc e = some f → CE S k E cc sc e f) (hx : ∀ x ∈ exc, ExcAt S x)
    (hlam : ∀ (dV kV doc pm : Value) (an : Option Addr) (cdv ct : Value), fd = PySem.W.fnOf x qual params body scope dV kV doc pm an cdv ct → ∃ c P, cdv = .ref c ∧ LamX.TabB S.base S.mg c P ∧ (P, qual ++ (".<locals>." : Str) ++ ("<lambda>" : Str)) ∈ S.T ∧ ∀ p ∈ S.T, p.1 = P → p.2 = qual ++ (".<locals>." : Str) ++ ("<lambda>" : Str))
    (hc : compSs (compS cc ⟨scope, fun _ => true, true⟩ exc fu (recNL cc Lr d) d) body = some f) :
    FnOk S.P S.w S.K S.mg S.base (L2N.CX S.P S.w) (k + 1) fa fd ps (spD S n (semF cc.N.length f)) := by
  obtain ⟨oc, od, dV, kV, doc, pm, an, cdv, ct, osl, rfl, lk, hcd, _, _⟩ := F.ex
  refine fn_of lk hcd hsc ?_ ?_
  · rintro vs H Q E ⟨G, ds, hl, _⟩
    rw [hl, hn]
  · rintro A outer s H vs Q E hr ⟨G, ds, hl, sb, tb, rds, hf⟩
    obtain ⟨t, p, v⟩ := compSs_ok (E := E) (sc := ⟨scope, fun _ => true, true⟩) (compS_ok C (recNL_ok C hL d) hx d) hc
    have tk : L2N.Takes (cxOf (L2N.CX S.P S.w) S.P S.w S.K S.mg S.base cc.N qual scope fa cdv A outer s H E) (fun cls d _ H => E cls d H) := L2N.takes_of rfl rfl rfl rfl
    refine ⟨t, p _ ⟨⟨rfl, rfl, rfl, rfl, rfl, rfl, hsc.nd, rfl, rfl, rfl, hr, L2N.passes_call tk fun _ _ _ _ h => h, fun _ => ?_⟩, tk, passes_of rfl⟩, ?_⟩
    · exact hlam _ _ _ _ _ _ _ rfl
    have hf2 : match (f (startL cc.N.length ds)).bind semR with
      | .stuck => False
      | .ex c => ∀ G' H', Gr S G H G' H' → E (.ref (S.ca c)) none H'
      | .ok d => ∀ v G' H', Gr S G H G' H' → DR S.K G' v d → Q v H' := hf
    refine evS_to (v G H G H _ _ ⟨Gr.refl sb, tb, env_start rds⟩) _ ?_
    cases e : f (startL cc.N.length ds) with
    | stuck => rw [e] at hf2; exact hf2.elim
    | ex c => rw [e] at hf2; exact hf2
    | ok r =>
      rw [e] at hf2
      cases r with
      | nx env => exact fun σ' G' H' a => hf2 .non G' H' a.gr .non
      | rt d => exact hf2
      | bk env => exact hf2.elim
      | ct env => exact hf2.elim
end
/-! ### facts of a head -/
def excCB (K : Frg) (C : Addr) : Bool := (PySem.W.clsIn K C).isSome && (He.eqO (PySem.W.findIn K (.ref C) "__getattribute__") (some (some (.builtin "BaseException.__getattribute__"))) && (He.eqO (PySem.W.findIn K (.ref C) "__getattr__") (some none) &&
  (decide (PySem.W.subIn K (.ref C) (.type "BaseException") = some true) && (He.eqO (PySem.W.findIn K (.ref C) "__class__") (some (some (.builtin "object.__class__"))) && (He.eqO (PySem.W.specialIn K (.builtin "object.__class__") "__get__") (some (some (.builtin "getset_descriptor.__get__"))) &&
  (decide (PySem.W.takesIn K (.builtin "object.__class__") = some true) && decide (PySem.W.mroIn K C (.type "object") = some true)))))))
theorem excCB_ok {K : Frg} {C : Addr} (h : excCB K C = true) : ExcC K C := by
  unfold excCB at h
  simp only [Bool.and_eq_true, decide_eq_true_eq] at h
  obtain ⟨h1, h2, h3, h4, h5, h6, h7, h8⟩ := h
  exact ⟨h1, He.eqO_ok h2, He.eqO_ok h3, h4, He.eqO_ok h5, He.eqO_ok h6, h7, h8⟩
def toldB (K : Frg) (Cs : List Str) : Bool := Cs.all fun c => excCB K (He.ga K c) && (decide (PySem.W.kitOne K (.ref (He.ga K c)) (.type "ValueError") = some true) && ((Cs.all fun x => decide (PySem.W.kitOne K (.ref (He.ga K c)) (.ref (He.ga K x)) = some (decide (x = c)))) &&
  decide (PySem.W.exmOne K (.ref (He.ga K c)) (.ref (He.ga K "LeagueError")) = some true)))
theorem toldB_ok {K : Frg} {Cs : List Str} (h : toldB K Cs = true) {c : Str} (hc : c ∈ Cs) : ExcC K (He.ga K c) ∧ PySem.W.kitOne K (.ref (He.ga K c)) (.type "ValueError") = some true ∧
    (∀ x ∈ Cs, PySem.W.kitOne K (.ref (He.ga K c)) (.ref (He.ga K x)) = some (decide (x = c))) ∧ PySem.W.exmOne K (.ref (He.ga K c)) (.ref (He.ga K "LeagueError")) = some true := by
  have h2 := List.all_eq_true.mp h c hc
  simp only [Bool.and_eq_true, decide_eq_true_eq, List.all_eq_true] at h2
  obtain ⟨h1, h3, h4, h5⟩ := h2
  exact ⟨excCB_ok h1, h3, h4, h5⟩
def wscB (sc : Scope) (Cs : List Str) : Bool := decide (sc.names.lookup ("_law_e" : Str) = some .local) && (decide (sc.names.lookup ("_law_flags" : Str) = some .local) && (decide (sc.names.lookup ("_law_names" : Str) = some .local) &&
  (decide (sc.names.lookup ("isinstance" : Str) = some .globalImplicit) && (decide (sc.names.lookup ("sum" : Str) = some .globalImplicit) && (decide (sc.names.lookup ("ValueError" : Str) = some .globalImplicit) &&
  Cs.all fun x => decide (sc.names.lookup x = some .globalImplicit) && !(x == ("__debug__" : Str)))))))
theorem wdAt_of {S : Sys} {Cs : List Str} {params : Arguments} {body : List Stmt} {scope : Scope} (hF : ∃ fa fd, FunD S.K "_law_word" "_law_word" params body scope [] [] fa fd ∧ S.mg ("_law_word" : Str) = some (.ref fa))
    (hb : ∀ (kV doc pm : Value) (an : Option Addr) (cdv ct : Value) (us : List Value), us.length = 1 → bindArgs (PySem.W.fnOf "_law_word" "_law_word" params body scope .none kV doc pm an cdv ct) ⟨us, []⟩ = pure ((["_law_e"] : List Str).zip us))
    (hsc : FnScope NW ["_law_e"] scope) (hs : wscB scope Cs = true) (hblt : ∀ x ∈ bltNames, S.mg x = none) (hve : S.mg ("ValueError" : Str) = none) (hg : ∀ c ∈ Cs, S.mg c = some (.ref (S.ca c))) (hca : S.ca = He.ga S.K) (ht : toldB S.K Cs = true)
    (hw : ∀ (X : Cx) (p : Addr × Obj) (C : Addr) (c : Str), c ∈ Cs → WC X p C c Cs → PSs X body (fun D σ H => σ[0]? = some (some (.ref p.1)) ∧ σ.length = 4 ∧ ∀ H', Fr H H' → D.rt (.str c) H')) : WdAt S 1 Cs := by
  obtain ⟨fa, fd, F, mg⟩ := hF
  have hb2 := F.bindsN (ps := ["_law_e"]) hb
  have hkp := F.kp
  obtain ⟨oc, od, dV, kV, doc, pm, an, cdv, ct, osl, rfl, lk, hcd, _, _⟩ := F.ex
  unfold wscB at hs
  simp only [Bool.and_eq_true, decide_eq_true_eq, List.all_eq_true, Bool.not_eq_true'] at hs
  obtain ⟨s1, s2, s3, s4, s5, s6, s7⟩ := hs
  refine ⟨fa, _, mg, hb2, hkp, fun c hc p hp1 hp2 hp3 => ?_⟩
  refine fn_ofP (N := NW) lk hcd hsc ?_ ?_
  · rintro vs H Q E ⟨rfl, _⟩
    rfl
  · rintro A outer s H vs Q E hot hr ⟨rfl, hq⟩
    obtain ⟨t1, t2, t3, t4⟩ := toldB_ok ht hc
    rw [← hca] at t1 t2 t3
    refine ⟨_, hw _ p (S.ca c) c hc ⟨rfl, s1, s2, s3, s4, s5, s6, hblt _ (by decide), hblt _ (by decide), hve, hblt _ (by decide), List.mem_cons_self, ⟨p, hot, List.mem_cons_self⟩, hp1, hp2, hp3, t1, t2, fun x hx => ⟨(s7 x hx).1, (s7 x hx).2, _, hg x hx, t3 x hx⟩⟩, rfl, rfl, hq⟩
theorem tdAt_of {S : Sys} {Cs : List Str} {params : Arguments} {q : Nat → Pos} {scope : Scope} (hF : ∃ fa fd, FunD S.K "_law_told" "_law_told" params (tdB q) scope [] [] fa fd ∧ S.mg ("_law_told" : Str) = some (.ref fa))
    (hb : ∀ (kV doc pm : Value) (an : Option Addr) (cdv ct : Value) (us : List Value), us.length = 1 → bindArgs (PySem.W.fnOf "_law_told" "_law_told" params (tdB q) scope .none kV doc pm an cdv ct) ⟨us, []⟩ = pure ((["_law_deed"] : List Str).zip us))
    (hsc : FnScope NT ["_law_deed"] scope) (h1 : scope.names.lookup ("_law_deed" : Str) = some .local) (h2 : scope.names.lookup ("_law_e" : Str) = some .local) (h3 : scope.names.lookup ("LeagueError" : Str) = some .globalImplicit) (h4 : scope.names.lookup ("_law_word" : Str) = some .globalImplicit)
    (hle : S.mg ("LeagueError" : Str) = some (.ref (S.ca "LeagueError"))) (hca : S.ca = He.ga S.K) (ht : toldB S.K Cs = true) : TdAt S Cs := by
  obtain ⟨fa, fd, F, mg⟩ := hF
  have hb2 := F.bindsN (ps := ["_law_deed"]) hb
  have hkp := F.kp
  obtain ⟨oc, od, dV, kV, doc, pm, an, cdv, ct, osl, rfl, lk, hcd, _, _⟩ := F.ex
  exact ⟨⟨fa, q, params, scope, dV, kV, doc, pm, cdv, ct, oc, an, od, osl, mg, hkp, lk, hcd, hb2, hsc, h1, h2, h3, h4⟩, S.ca "LeagueError", hle, fun c hc => by
    have t := (toldB_ok ht hc).2.2.2
    rw [← hca] at t
    exact t⟩
end PD
/-! the end of a law whose lambdas are told -/
namespace PD
open PySem PySem.Spec PyProof.Rows L2
/-- the system that a head tells of; the law's own def makes lambdas -/
abbrev sysT (P : Program) (w : World) (K : Frg) (mg : Str → Option Value) (base : Heap) : Sys := ⟨P, w, K, mg, base, [((He.cT K ("law", none)).2, ("law" : Str) ++ (".<locals>." : Str) ++ ("<lambda>" : Str))], He.ga K⟩
theorem excAt_ofT {P : Program} {w : World} {K : Frg} {mg : Str → Option Value} {base : Heap} {x : Str} (g : mg x = some (.ref (He.ga K x))) (c : (He.Fa.exc x).ok K = true) : ExcAt (sysT P w K mg base) x := by
  obtain ⟨c1, c2, c3, c4⟩ := He.exc_ok c
  exact ⟨g, c1, c2, c3, c4⟩
def spLawT (K : Frg) (t : Addr) : Sp := fun vs H Q _ => ∃ (a : Addr) (ns : List Int), vs = [.ref a] ∧ H t = some (.tbl #[]) ∧ SqL K H a (ns.map V.int) ∧ ns.length ≤ 63 ∧ ∀ H', Q (.bl true) H'
/-- all but the tables -/
def noTbl (H : Hp) : Hp := fun b => match H b with
  | some (.tbl _) => none
  | o => o
theorem noTbl_sb (H : Hp) : Sb (noTbl H) H := fun b o e => by
  unfold noTbl at e
  split at e
  · cases e
  · rename_i h
    exact ⟨e, fun ps z => h ps (by rw [e, z])⟩
theorem noTbl_xt (H : Hp) : Xt H (noTbl H) := fun b o e n => by
  unfold noTbl
  split
  · rename_i ps h
    rw [h] at e
    cases e
    exact absurd rfl (n ps)
  · exact e
theorem spLawT_ok {P : Program} {w : World} {K : Frg} {mg : Str → Option Value} {base : Heap} {f : List PyData → M PyData} (hf : ∀ ns : List Int, ns.length ≤ 63 → f [scr ns] = .ok (.bool true)) (vs : List V) (H : Hp) (Q : VK) (E : XK) (h : spLawT K (He.cT K ("law", none)).2 vs H Q E) :
    spD (sysT P w K mg base) 1 f vs H Q E := by
  obtain ⟨a, ns, rfl, ho, hs, hl, q⟩ := h
  refine ⟨noTbl H, [scr ns], rfl, noTbl_sb H, fun x hx => ?_, .cons (.scr ((noTbl_xt H).sqL hs)) .nil, ?_⟩
  · have e : x = ((He.cT K ("law", none)).2, ("law" : Str) ++ (".<locals>." : Str) ++ ("<lambda>" : Str)) := by simpa using hx
    subst e
    exact LamX.TabS.nil ho
  · rw [hf ns hl]
    intro v G' H' gr r
    rw [DR.toBl r]
    exact q H'
theorem lam_code {K : Frg} {mg : Str → Option Value} {base : Heap} {P : Program} {w : World} {params : Arguments} {body : List Stmt} {scope : Scope} {fd : FuncData} (F : FunD K "law" "law" params body scope [] [] (He.fAd K ("law", none)) fd)
    (TB : LamX.TabB base mg (He.cT K ("law", none)).1 (He.cT K ("law", none)).2) (dV kV doc pm : Value) (an : Option Addr) (cdv ct : Value) (e : fd = PySem.W.fnOf "law" "law" params body scope dV kV doc pm an cdv ct) :
    ∃ c P', cdv = .ref c ∧ LamX.TabB base mg c P' ∧ (P', ("law" : Str) ++ (".<locals>." : Str) ++ ("<lambda>" : Str)) ∈ (sysT P w K mg base).T ∧ ∀ p ∈ (sysT P w K mg base).T, p.1 = P' → p.2 = ("law" : Str) ++ (".<locals>." : Str) ++ ("<lambda>" : Str) := by
  obtain ⟨oc, od, dV', kV', doc', pm', an', cdv', ct', osl, e2, lk, hcd, _, _⟩ := F.ex
  have e3 : cdv = cdv' := by
    have z := e.symm.trans e2
    exact congrArg FuncData.code z
  subst e3
  cases cdv with
  | ref c =>
    have e4 : He.codeOf K ("law", none) = c := He.codeOf_eq lk (by rw [e2])
    refine ⟨c, (He.cT K ("law", none)).2, rfl, by rw [← e4]; exact TB, by simp, fun p hp _ => ?_⟩
    have e5 : p = ((He.cT K ("law", none)).2, ("law" : Str) ++ (".<locals>." : Str) ++ ("<lambda>" : Str)) := by simpa using hp
    rw [e5]
  | _ => cases hcd
theorem lawAtT {l : PySem.W.OpenLaw} {w : World} {K : Frg} {mg : Str → Option Value} {h : Heap} {k : Nat} {x : Str} {fd : FuncData} {f : List PyData → M PyData} (X : K.In h)
    (hemp : h.get? (He.cT K ("law", none)).2 = some { cls := .none, data := .fields #[] }) (hout : K.lookup (He.cT K ("law", none)).2 = none) (hhd : PySem.W.codeHdIn K (He.cT K ("law", none)).1 (He.cT K ("law", none)).2 = true)
    (hb : ∀ (s : Shared) (u : Value), BindsTo s fd ⟨[u], []⟩ [(x, u)]) (hf : ∀ ns : List Int, ns.length ≤ 63 → f [scr ns] = .ok (.bool true))
    (hk : ∀ base : Heap, K.In base → LamX.TabB base mg (He.cT K ("law", none)).1 (He.cT K ("law", none)).2 → FnOk l.prog w K mg base (L2N.CX l.prog w) k (He.ga K "law") fd [x] (spD (sysT l.prog w K mg base) 1 f)) :
    LamX.LawAtS l w K (L2N.CX l.prog w) k 63 x mg (He.ga K "law") h := by
  refine ⟨fd, [He.cT K ("law", none)], spLawT K (He.cT K ("law", none)).2, fun p hp => ?_, fun p hp => ?_, fun p hp => ?_, hb, fun H a ns hl _ hT hs => ⟨a, ns, rfl, hT _ List.mem_cons_self, hs, hl, fun _ => rfl⟩, fun base X2 G2 TB => (hk base X2 (TB _ List.mem_cons_self)).imp fun vs H Q E q => spLawT_ok hf vs H Q E q⟩
  · obtain rfl : p = _ := by simpa using hp
    exact hemp
  · obtain rfl : p = _ := by simpa using hp
    exact hout
  · obtain rfl : p = _ := by simpa using hp
    exact PySem.W.codeHd_of_K X hhd
theorem cxN_calm {P : Program} {w : World} {H : Hp} {s : Shared} {e : Value} {s' : Shared} (h : L2N.CX P w [] H s (fun _ _ _ => False) e s') : False := by
  obtain ⟨_, _, _, _, _, _, _, _, _, _, _, _, z⟩ := h
  exact z.elim
end PD
namespace PG
open PySem PySem.Spec PyProof.Rows L2 PD
def f_is_count : SF :=
  (sSeq (sRet [] (eAn (eUn (opIsi "int") (eVar 0)) (eAn (eNt (eUn (opIsi "bool") (eVar 0))) (eChain opLe opLe (eVar 1) (eVar 0) (eVar 2))))) sNil)
def s_is_count : List D → M D := semF 3 f_is_count
theorem e_is_count (x0 x1 x2 : PyData) : s_is_count [x0, x1, x2] = (f_is_count [.d x0, .d x1, .d x2]).bind semR := rfl
def q_is_left_0 : EF := eLc [2] (iEx (eSl (eVar 0) oNone (oSome (eC (.int 2))))) (gNm 2) tTrue (eCall s_is_count (aCons (eFz (eVar 2)) (aCons (eFz (eC (.int 0))) (aCons (eFz (eBin opSub (eVar 1) (eC (.int 1)))) aNil))))
def f_is_left : SF :=
  (sSeq (sIf [] (tOr (tNt (tVal (eUn (opIsi "tuple") (eVar 0)))) (tOr (tVal (eBin (opEq true) (eBi bLen (aCons (eVar 0) aNil)) (eC (.int 3)))) (tNt (tVal (eCall s_is_count (aCons (eFz (eBin opIx (eVar 0) (eC (.int 2)))) (aCons (eFz (eC (.int 1))) (aCons (eFz (eC (.int 9))) aNil))))))))
   (sSeq (sRet [] (eC (.bool false))) sNil)
   sNil)
  (sSeq (sRet [2] (eAn (eBi bAll (aCons q_is_left_0 aNil)) (eBin opLt (eBin opIx (eVar 0) (eC (.int 0))) (eBin opIx (eVar 0) (eC (.int 1)))))) sNil))
def s_is_left : List D → M D := semF 3 f_is_left
theorem e_is_left (x0 x1 : PyData) : s_is_left [x0, x1] = (f_is_left [.d x0, .d x1, .un]).bind semR := rfl
def q_is_league_0 : EF := eLc [3] (iEx (eVar 0)) (gNm 3) tTrue (eUn (opIsi "tuple") (eVar 3))
def q_is_league_1 : EF := eLc [3] (iEx (eVar 1)) (gNm 3) tTrue (eCall s_is_count (aCons (eFz (eVar 3)) (aCons (eFz (eC (.int 0))) (aCons (eFz (eC (.int 60))) aNil))))
def q_is_league_2 : EF := eLc [3] (iEx (eVar 2)) (gNm 3) tTrue (eCall s_is_left (aCons (eFz (eVar 3)) (aCons (eFz (eBi bLen (aCons (eVar 1) aNil))) aNil)))
def q_is_league_3 : EF := eLc [3, 4] (iZp (eSl (eVar 2) oNone (oSome (eC (.int (-1))))) (eSl (eVar 2) (oSome (eC (.int 1))) oNone)) (gTp [(gNm 3), (gNm 4)]) tTrue (eBin opLt (eSl (eVar 3) oNone (oSome (eC (.int 2)))) (eSl (eVar 4) oNone (oSome (eC (.int 2)))))
def f_is_league : SF :=
  (sSeq (sIf [0] (tOr (tNt (tVal (eUn (opIsi "tuple") (eVar 0)))) (tOr (tVal (eBin (opEq true) (eBi bLen (aCons (eVar 0) aNil)) (eC (.int 2)))) (tNt (tVal (eBi bAll (aCons q_is_league_0 aNil))))))
   (sSeq (sRet [] (eC (.bool false))) sNil)
   sNil)
  (sSeq (sUnp [0] (gTp [(gNm 1), (gNm 2)]) (eVar 0))
  (sSeq (sIf [3, 1] (tOr (tNt (tVal (eChain opLe opLe (eC (.int 2)) (eBi bLen (aCons (eVar 1) aNil)) (eC (.int 6))))) (tNt (tVal (eBi bAll (aCons q_is_league_1 aNil)))))
   (sSeq (sRet [] (eC (.bool false))) sNil)
   sNil)
  (sSeq (sIf [3, 2] (tNt (tVal (eBi bAll (aCons q_is_league_2 aNil))))
   (sSeq (sRet [] (eC (.bool false))) sNil)
   sNil)
  (sSeq (sRet [] (eBi bAll (aCons q_is_league_3 aNil))) sNil)))))
def s_is_league : List D → M D := semF 5 f_is_league
theorem e_is_league (x0 : PyData) : s_is_league [x0] = (f_is_league [.d x0, .un, .un, .un, .un]).bind semR := rfl
def f_need_league : SF :=
  (sSeq (sIf [0] (tNt (tVal (eCall s_is_league (aCons (eFz (eVar 0)) aNil))))
   (sSeq (sRaise "BadLeague") sNil)
   sNil) sNil)
def s_need_league : List D → M D := semF 1 f_need_league
theorem e_need_league (x0 : PyData) : s_need_league [x0] = (f_need_league [.d x0]).bind semR := rfl
def f_need_side : SF :=
  (sSeq (sIf [1] (tNt (tVal (eCall s_is_count (aCons (eFz (eVar 1)) (aCons (eFz (eC (.int 0))) (aCons (eFz (eBin opSub (eBi bLen (aCons (eBin opIx (eVar 0) (eC (.int 0))) aNil)) (eC (.int 1)))) aNil))))))
   (sSeq (sRaise "BadSide") sNil)
   sNil) sNil)
def s_need_side : List D → M D := semF 2 f_need_side
theorem e_need_side (x0 x1 : PyData) : s_need_side [x0, x1] = (f_need_side [.d x0, .d x1]).bind semR := rfl
def q_left_of_0 : EF := eLc [2, 3, 4] (iEx (eBin opIx (eVar 0) (eC (.int 1)))) (gTp [(gNm 2), (gNm 3), (gNm 4)]) (tVal (eBin (opIn false) (eVar 1) (eTup (aCons (eFz (eVar 2)) (aCons (eFz (eVar 3)) aNil))))) (eVar 4)
def f_left_of : SF :=
  (sSeq (sRet [] (eTmp [4, 2, 3] (eBi bSum2 (aCons q_left_of_0 aNil)))) sNil)
def s_left_of : List D → M D := semF 5 f_left_of
theorem e_left_of (x0 x1 : PyData) : s_left_of [x0, x1] = (f_left_of [.d x0, .d x1, .un, .un, .un]).bind semR := rfl
def f_matches_left : SF :=
  (sSeq (sExp [0] (eCall s_need_league (aCons (eFz (eVar 0)) aNil)))
  (sSeq (sExp [0, 1] (eCall s_need_side (aCons (eFz (eVar 0)) (aCons (eFz (eVar 1)) aNil))))
  (sSeq (sRet [0, 1] (eCall s_left_of (aCons (eFz (eVar 0)) (aCons (eFz (eVar 1)) aNil)))) sNil)))
def s_matches_left : List D → M D := semF 2 f_matches_left
theorem e_matches_left (x0 x1 : PyData) : s_matches_left [x0, x1] = (f_matches_left [.d x0, .d x1]).bind semR := rfl
def q_places_of_0 : EF := eLc [2] (iEx (eVar 0)) (gNm 2) (tVal (eBin opGt (eVar 2) (eVar 1))) (eC (.int 1))
def q_places_of_1 : EF := eLc [1] (iEx (eVar 0)) (gNm 1) tTrue (eBin opAdd (eC (.int 1)) (eBi bLen (aCons q_places_of_0 aNil)))
def f_places_of : SF :=
  (sSeq (sRet [0, 0] q_places_of_1) sNil)
def s_places_of : List D → M D := semF 3 f_places_of
theorem e_places_of (x0 : PyData) : s_places_of [x0] = (f_places_of [.d x0, .un, .un]).bind semR := rfl
def f_places : SF :=
  (sSeq (sExp [0] (eCall s_need_league (aCons (eFz (eVar 0)) aNil)))
  (sSeq (sRet [] (eCall s_places_of (aCons (eFz (eBin opIx (eVar 0) (eC (.int 0)))) aNil))) sNil))
def s_places : List D → M D := semF 1 f_places
theorem e_places (x0 : PyData) : s_places [x0] = (f_places [.d x0]).bind semR := rfl
def f_with_wins : SF :=
  (sSeq (sRet [] (eBin opAdd (eBin opAdd (eSl (eVar 0) oNone (oSome (eVar 1))) (eTup (aCons (eFz (eBin opAdd (eBin opIx (eVar 0) (eVar 1)) (eVar 2))) aNil))) (eSl (eVar 0) (oSome (eBin opAdd (eVar 1) (eC (.int 1)))) oNone))) sNil)
def s_with_wins : List D → M D := semF 3 f_with_wins
theorem e_with_wins (x0 x1 x2 : PyData) : s_with_wins [x0, x1, x2] = (f_with_wins [.d x0, .d x1, .d x2]).bind semR := rfl
def q_played_0 : EF := eLc [5] (iEx (eBin opIx (eVar 0) (eC (.int 1)))) (gNm 5) tTrue (eSl (eVar 5) oNone (oSome (eC (.int 2))))
def b_played_1 : SF :=
  (sSeq (sAsg [] 6 (eBin opSub (eBin opIx (eVar 5) (eC (.int 2))) (eBi bInt (aCons (eBin (opEq false) (eSl (eVar 5) oNone (oSome (eC (.int 2)))) (eVar 3)) aNil))))
  (sSeq (sIf [] (tVal (eBin opGt (eVar 6) (eC (.int 0))))
   (sSeq (sApp [6] 4 (eBin opAdd (eSl (eVar 5) oNone (oSome (eC (.int 2)))) (eTup (aCons (eFz (eVar 6)) aNil)))) sNil)
   sNil) sNil))
def f_played : SF :=
  (sSeq (sExp [0] (eCall s_need_league (aCons (eFz (eVar 0)) aNil)))
  (sSeq (sExp [0, 1] (eCall s_need_side (aCons (eFz (eVar 0)) (aCons (eFz (eVar 1)) aNil))))
  (sSeq (sExp [0, 2] (eCall s_need_side (aCons (eFz (eVar 0)) (aCons (eFz (eVar 2)) aNil))))
  (sSeq (sAsg [] 3 (eTup (aCons (eFz (eBi bMin (aCons (eVar 1) (aCons (eVar 2) aNil)))) (aCons (eFz (eBi bMax (aCons (eVar 1) (aCons (eVar 2) aNil)))) aNil))))
  (sSeq (sIf [] (tOr (tVal (eBin (opIn true) (eVar 3) q_played_0)) (tVal (eBin (opEq false) (eBin opIx (eBin opIx (eVar 0) (eC (.int 0))) (eVar 1)) (eC (.int 60)))))
   (sSeq (sRaise "BadMatch") sNil)
   sNil)
  (sSeq (sAsg [] 4 (eLst aNil))
  (sSeq (sFor [] (iEx (eBin opIx (eVar 0) (eC (.int 1)))) (gNm 5) b_played_1)
  (sSeq (sRet [1] (eTup (aCons (eFz (eCall s_with_wins (aCons (eFz (eBin opIx (eVar 0) (eC (.int 0)))) (aCons (eFz (eVar 1)) (aCons (eFz (eC (.int 1))) aNil))))) (aCons (eFz (eBi bTuple (aCons (eVar 4) aNil))) aNil)))) sNil))))))))
def s_played : List D → M D := semF 7 f_played
theorem e_played (x0 x1 x2 : PyData) : s_played [x0, x1, x2] = (f_played [.d x0, .d x1, .d x2, .un, .un, .un, .un]).bind semR := rfl
def b_ended_of_0 : SF :=
  (sSeq (sAsg [2, 4, 3, 5] 2 (eCall s_with_wins (aCons (eFz (eCall s_with_wins (aCons (eFz (eVar 2)) (aCons (eFz (eVar 4)) (aCons (eFz (eVar 3)) aNil))))) (aCons (eFz (eVar 5)) (aCons (eFz (eBin opSub (eVar 6) (eVar 3))) aNil))))) sNil)
def f_ended_of : SF :=
  (sSeq (sAsg [] 2 (eBin opIx (eVar 0) (eC (.int 0))))
  (sSeq (sFor [1] (iZp (eBin opIx (eVar 0) (eC (.int 1))) (eVar 1)) (gTp [(gTp [(gNm 4), (gNm 5), (gNm 6)]), (gNm 3)]) b_ended_of_0)
  (sSeq (sRet [2] (eVar 2)) sNil)))
def s_ended_of : List D → M D := semF 7 f_ended_of
theorem e_ended_of (x0 x1 : PyData) : s_ended_of [x0, x1] = (f_ended_of [.d x0, .d x1, .un, .un, .un, .un, .un]).bind semR := rfl
def q_is_season_0 : EF := eLc [2, 3] (iZp (eBin opIx (eVar 0) (eC (.int 1))) (eVar 1)) (gTp [(gNm 2), (gNm 3)]) tTrue (eCall s_is_count (aCons (eFz (eVar 3)) (aCons (eFz (eC (.int 0))) (aCons (eFz (eBin opIx (eVar 2) (eC (.int 2)))) aNil))))
def f_is_season : SF :=
  (sSeq (sIf [] (tOr (tNt (tVal (eUn (opIsi "tuple") (eVar 1)))) (tVal (eBin (opEq true) (eBi bLen (aCons (eVar 1) aNil)) (eBi bLen (aCons (eBin opIx (eVar 0) (eC (.int 1))) aNil)))))
   (sSeq (sRet [] (eC (.bool false))) sNil)
   sNil)
  (sSeq (sRet [3, 1] (eBi bAll (aCons q_is_season_0 aNil))) sNil))
def s_is_season : List D → M D := semF 4 f_is_season
theorem e_is_season (x0 x1 : PyData) : s_is_season [x0, x1] = (f_is_season [.d x0, .d x1, .un, .un]).bind semR := rfl
def f_ended : SF :=
  (sSeq (sExp [0] (eCall s_need_league (aCons (eFz (eVar 0)) aNil)))
  (sSeq (sIf [0, 1] (tNt (tVal (eCall s_is_season (aCons (eFz (eVar 0)) (aCons (eFz (eVar 1)) aNil)))))
   (sSeq (sRaise "BadMatch") sNil)
   sNil)
  (sSeq (sRet [0, 1] (eCall s_ended_of (aCons (eFz (eVar 0)) (aCons (eFz (eVar 1)) aNil)))) sNil)))
def s_ended : List D → M D := semF 2 f_ended
theorem e_ended (x0 x1 : PyData) : s_ended [x0, x1] = (f_ended [.d x0, .d x1]).bind semR := rfl
def f__law_cell : SF :=
  (sSeq (sIf [] (tVal (eBin (opEq false) (eVar 0) (eLst aNil)))
   (sSeq (sRet [] (eBin opMul (eVar 1) (eC (.int 7919)))) sNil)
   sNil)
  (sSeq (sRet [] (eBin opAdd (eBin opIx (eVar 0) (eBin opMod (eVar 1) (eBi bLen (aCons (eVar 0) aNil)))) (eBin opMul (eBin opDiv (eVar 1) (eBi bLen (aCons (eVar 0) aNil))) (eC (.int 104729))))) sNil))
def s__law_cell : List D → M D := semF 2 f__law_cell
theorem e__law_cell (x0 x1 : PyData) : s__law_cell [x0, x1] = (f__law_cell [.d x0, .d x1]).bind semR := rfl
def f__law_drawn : SF :=
  (sSeq (sAsg [] 2 (eBin opMod (eBin opAdd (eBin opMul (eVar 0) (eC (.int 6364136223846793005))) (eBin opMul (eBin opAdd (eVar 1) (eC (.int 1))) (eC (.int 1442695040888963407)))) (eC (.int 340282366920938463463374607431768211507))))
  (sSeq (sAsg [] 2 (eBin opMod (eBin opMul (eVar 2) (eVar 2)) (eC (.int 340282366920938463463374607431768211297))))
  (sSeq (sAsg [] 2 (eBin opMul (eBin opMul (eBin opAdd (eBin opMod (eVar 2) (eC (.int 18446744073709551557))) (eC (.int 1))) (eBin opAdd (eBin opDiv (eVar 2) (eC (.int 18446744073709551557))) (eC (.int 1)))) (eVar 2)))
  (sSeq (sRet [] (eBin opMod (eVar 2) (eC (.int 340282366920938463463374607431768211507)))) sNil))))
def s__law_drawn : List D → M D := semF 3 f__law_drawn
theorem e__law_drawn (x0 x1 : PyData) : s__law_drawn [x0, x1] = (f__law_drawn [.d x0, .d x1, .un]).bind semR := rfl
def q__law_league_0 : EF := eLc [8] (iR1 (eVar 2)) (gNm 8) tTrue (eBin opMod (eCall s__law_drawn (aCons (eFz (eVar 0)) (aCons (eFz (eVar 8)) aNil))) (eBin opIx (eLst (aCons (eFz (eC (.int 3))) (aCons (eFz (eC (.int 6))) (aCons (eFz (eC (.int 61))) aNil)))) (eBin opMod (eBin opDiv (eVar 0) (eC (.int 8))) (eC (.int 3)))))
def b__law_league_1 : SF :=
  (sSeq (sAsg [0] 7 (eCall s__law_drawn (aCons (eFz (eVar 0)) (aCons (eFz (eBin opAdd (eBin opAdd (eC (.int 10)) (eBin opMul (eC (.int 6)) (eVar 5))) (eVar 6))) aNil))))
  (sSeq (sIf [] (tVal (eBin opGt (eBin opMod (eVar 7) (eC (.int 3))) (eC (.int 0))))
   (sSeq (sApp [5, 6] 4 (eTup (aCons (eFz (eVar 5)) (aCons (eFz (eVar 6)) (aCons (eFz (eBin opAdd (eC (.int 1)) (eBin opMod (eBin opDiv (eVar 7) (eC (.int 8))) (eBin opIx (eLst (aCons (eFz (eC (.int 1))) (aCons (eFz (eC (.int 2))) (aCons (eFz (eC (.int 3))) (aCons (eFz (eC (.int 9))) aNil))))) (eBin opMod (eBin opDiv (eVar 7) (eC (.int 64))) (eC (.int 4))))))) aNil))))) sNil)
   sNil) sNil))
def b__law_league_2 : SF :=
  (sSeq (sFor [] (iR2 (eBin opAdd (eVar 5) (eC (.int 1))) (eVar 2)) (gNm 6) b__law_league_1) sNil)
def f__law_league : SF :=
  (sSeq (sAsg [] 2 (eBin opAdd (eC (.int 2)) (eBin opMod (eVar 0) (eBin opSub (eVar 1) (eC (.int 1))))))
  (sSeq (sAsg [0, 8] 3 (eBi bTuple (aCons q__law_league_0 aNil)))
  (sSeq (sAsg [] 4 (eLst aNil))
  (sSeq (sFor [] (iR1 (eVar 2)) (gNm 5) b__law_league_2)
  (sSeq (sRet [3] (eTup (aCons (eFz (eVar 3)) (aCons (eFz (eBi bTuple (aCons (eVar 4) aNil))) aNil)))) sNil)))))
def s__law_league : List D → M D := semF 9 f__law_league
theorem e__law_league (x0 x1 : PyData) : s__law_league [x0, x1] = (f__law_league [.d x0, .d x1, .un, .un, .un, .un, .un, .un, .un]).bind semR := rfl
def b__law_ended_0 : SF :=
  (sSeq (sSto [] 2 (eVar 4) (eBin opAdd (eBin opIx (eVar 2) (eVar 4)) (eVar 3)))
  (sSeq (sSto [] 2 (eVar 5) (eBin opSub (eBin opAdd (eBin opIx (eVar 2) (eVar 5)) (eVar 6)) (eVar 3))) sNil))
def f__law_ended : SF :=
  (sSeq (sAsg [] 2 (eBi bList (aCons (eBin opIx (eVar 0) (eC (.int 0))) aNil)))
  (sSeq (sFor [1] (iZp (eBin opIx (eVar 0) (eC (.int 1))) (eVar 1)) (gTp [(gTp [(gNm 4), (gNm 5), (gNm 6)]), (gNm 3)]) b__law_ended_0)
  (sSeq (sRet [] (eBi bTuple (aCons (eVar 2) aNil))) sNil)))
def s__law_ended : List D → M D := semF 7 f__law_ended
theorem e__law_ended (x0 x1 : PyData) : s__law_ended [x0, x1] = (f__law_ended [.d x0, .d x1, .un, .un, .un, .un, .un]).bind semR := rfl
def q__law_place_0 : EF := eLc [2] (iEx (eVar 0)) (gNm 2) (tVal (eBin opGt (eVar 2) (eBin opIx (eVar 0) (eVar 1)))) (eVar 2)
def f__law_place : SF :=
  (sSeq (sRet [2, 0] (eBin opAdd (eC (.int 1)) (eBi bLen (aCons q__law_place_0 aNil)))) sNil)
def s__law_place : List D → M D := semF 3 f__law_place
theorem e__law_place (x0 x1 : PyData) : s__law_place [x0, x1] = (f__law_place [.d x0, .d x1, .un]).bind semR := rfl
def q__law_played_0 : EF := eLc [6, 7, 8] (iEx (eBin opIx (eVar 0) (eC (.int 1)))) (gTp [(gNm 6), (gNm 7), (gNm 8)]) tTrue (eTup (aCons (eFz (eVar 6)) (aCons (eFz (eVar 7)) (aCons (eFz (eBin opSub (eVar 8) (eBi bInt (aCons (eBin (opEq false) (eTup (aCons (eFz (eVar 6)) (aCons (eFz (eVar 7)) aNil))) (eVar 4)) aNil)))) aNil))))
def q__law_played_1 : EF := eLc [9] (iEx (eVar 5)) (gNm 9) (tVal (eBin opGt (eBin opIx (eVar 9) (eC (.int 2))) (eC (.int 0)))) (eVar 9)
def f__law_played : SF :=
  (sSeq (sAsg [] 3 (eBi bList (aCons (eBin opIx (eVar 0) (eC (.int 0))) aNil)))
  (sSeq (sSto [] 3 (eVar 1) (eBin opAdd (eBin opIx (eVar 3) (eVar 1)) (eC (.int 1))))
  (sSeq (sAsg [] 4 (eTup (aCons (eFz (eBi bMin (aCons (eVar 1) (aCons (eVar 2) aNil)))) (aCons (eFz (eBi bMax (aCons (eVar 1) (aCons (eVar 2) aNil)))) aNil))))
  (sSeq (sAsg [6, 7, 6, 7] 5 q__law_played_0)
  (sSeq (sRet [9, 5] (eTup (aCons (eFz (eBi bTuple (aCons (eVar 3) aNil))) (aCons (eFz (eBi bTuple (aCons q__law_played_1 aNil))) aNil)))) sNil)))))
def s__law_played : List D → M D := semF 10 f__law_played
theorem e__law_played (x0 x1 x2 : PyData) : s__law_played [x0, x1, x2] = (f__law_played [.d x0, .d x1, .d x2, .un, .un, .un, .un, .un, .un, .un]).bind semR := rfl
def f_need_place : SF :=
  (sSeq (sIf [1] (tNt (tVal (eCall s_is_count (aCons (eFz (eVar 1)) (aCons (eFz (eC (.int 1))) (aCons (eFz (eBi bLen (aCons (eBin opIx (eVar 0) (eC (.int 0))) aNil))) aNil))))))
   (sSeq (sRaise "BadPlace") sNil)
   sNil) sNil)
def s_need_place : List D → M D := semF 2 f_need_place
theorem e_need_place (x0 x1 : PyData) : s_need_place [x0, x1] = (f_need_place [.d x0, .d x1]).bind semR := rfl
def q_choices_0 : EF := eLc [6] (iEx (eVar 0)) (gNm 6) (tOr (tVal (eBin (opEq false) (eVar 5) (eTup aNil))) (tVal (eBin opGt (eVar 6) (eBin opIx (eVar 5) (eC (.int (-1))))))) (eBin opAdd (eVar 5) (eTup (aCons (eFz (eVar 6)) aNil)))
def b_choices_1 : SF :=
  (sSeq (sExt [6, 0] 4 q_choices_0) sNil)
def b_choices_2 : SF :=
  (sSeq (sAsg [] 4 (eLst aNil))
  (sSeq (sFor [2] (iEx (eVar 2)) (gNm 5) b_choices_1)
  (sSeq (sAsg [4] 2 (eVar 4)) sNil)))
def f_choices : SF :=
  (sSeq (sAsg [] 2 (eLst (aCons (eFz (eTup aNil)) aNil)))
  (sSeq (sFor [] (iR1 (eVar 1)) (gNm 3) b_choices_2)
  (sSeq (sRet [2] (eVar 2)) sNil)))
def s_choices : List D → M D := semF 7 f_choices
theorem e_choices (x0 x1 : PyData) : s_choices [x0, x1] = (f_choices [.d x0, .d x1, .un, .un, .un, .un, .un]).bind semR := rfl
def q_others_0 : EF := eLc [2] (iR1 (eBi bLen (aCons (eBin opIx (eVar 0) (eC (.int 0))) aNil))) (gNm 2) (tVal (eBin (opEq true) (eVar 2) (eVar 1))) (eVar 2)
def f_others : SF :=
  (sSeq (sRet [2] q_others_0) sNil)
def s_others : List D → M D := semF 3 f_others
theorem e_others (x0 x1 : PyData) : s_others [x0, x1] = (f_others [.d x0, .d x1, .un]).bind semR := rfl
def f_most_of : SF :=
  (sSeq (sRet [0, 1] (eBin opAdd (eBin opIx (eBin opIx (eVar 0) (eC (.int 0))) (eVar 1)) (eCall s_left_of (aCons (eFz (eVar 0)) (aCons (eFz (eVar 1)) aNil))))) sNil)
def s_most_of : List D → M D := semF 2 f_most_of
theorem e_most_of (x0 x1 : PyData) : s_most_of [x0, x1] = (f_most_of [.d x0, .d x1]).bind semR := rfl
def q_weighs_down_0 : EF := eLc [4, 5, 6] (iEx (eBin opIx (eVar 0) (eC (.int 1)))) (gTp [(gNm 4), (gNm 5), (gNm 6)]) (tAn (tVal (eBin (opIn false) (eVar 4) (eVar 2))) (tVal (eBin (opIn false) (eVar 5) (eVar 2)))) (eVar 6)
def q_weighs_down_1 : EF := eLc [4] (iEx (eVar 2)) (gNm 4) tTrue (eBin opIx (eBin opIx (eVar 0) (eC (.int 0))) (eVar 4))
def f_weighs_down : SF :=
  (sSeq (sAsg [] 3 (eTmp [6] (eBi bSum2 (aCons q_weighs_down_0 aNil))))
  (sSeq (sRet [0, 1] (eBin opGt (eBin opAdd (eTmp [2] (eBi bSum2 (aCons q_weighs_down_1 aNil))) (eVar 3)) (eBin opMul (eBi bLen (aCons (eVar 2) aNil)) (eCall s_most_of (aCons (eFz (eVar 0)) (aCons (eFz (eVar 1)) aNil)))))) sNil))
def s_weighs_down : List D → M D := semF 7 f_weighs_down
theorem e_weighs_down (x0 x1 x2 : PyData) : s_weighs_down [x0, x1, x2] = (f_weighs_down [.d x0, .d x1, .d x2, .un, .un, .un, .un]).bind semR := rfl
def q_weight_against_0 : EF := eLc [6] (iEx (eCall s_others (aCons (eFz (eVar 0)) (aCons (eFz (eVar 1)) aNil)))) (gNm 6) (tVal (eBin (opIn true) (eVar 6) (eVar 2))) (eVar 6)
def b_weight_against_1 : SF :=
  (sSeq (sIf [0, 1, 5] (tVal (eCall s_weighs_down (aCons (eFz (eVar 0)) (aCons (eFz (eVar 1)) (aCons (eFz (eVar 5)) aNil)))))
   (sSeq (sRet [5] (eVar 5)) sNil)
   sNil) sNil)
def b_weight_against_2 : SF :=
  (sSeq (sFor [3, 4] (iEx (eCall s_choices (aCons (eFz (eVar 3)) (aCons (eFz (eVar 4)) aNil)))) (gNm 5) b_weight_against_1) sNil)
def f_weight_against : SF :=
  (sSeq (sAsg [6, 0, 1] 3 q_weight_against_0)
  (sSeq (sFor [] (iR2 (eC (.int 1)) (eBin opAdd (eBi bLen (aCons (eVar 3) aNil)) (eC (.int 1)))) (gNm 4) b_weight_against_2)
  (sSeq (sRet [] (eC .none)) sNil)))
def s_weight_against : List D → M D := semF 7 f_weight_against
theorem e_weight_against (x0 x1 x2 : PyData) : s_weight_against [x0, x1, x2] = (f_weight_against [.d x0, .d x1, .d x2, .un, .un, .un, .un]).bind semR := rfl
def b_rests_0 : SF :=
  (sSeq (sIf [] (tVal (eBin opLt (eVar 5) (eBi bLen (aCons (eVar 2) aNil))))
   (sSeq (sAsg [3, 6, 7, 8] 3 (eCall s_ended_of (aCons (eFz (eTup (aCons (eFz (eVar 3)) (aCons (eFz (eTup (aCons (eFz (eTup (aCons (eFz (eVar 6)) (aCons (eFz (eVar 7)) (aCons (eFz (eVar 8)) aNil))))) aNil))) aNil)))) (aCons (eFz (eSl (eVar 2) (oSome (eVar 5)) (oSome (eBin opAdd (eVar 5) (eC (.int 1)))))) aNil)))) sNil)
   (sSeq (sIf [6, 7] (tVal (eBin (opIn false) (eVar 1) (eTup (aCons (eFz (eVar 6)) (aCons (eFz (eVar 7)) aNil)))))
    (sSeq (sAsg [3, 6, 7, 8, 8] 3 (eCall s_ended_of (aCons (eFz (eTup (aCons (eFz (eVar 3)) (aCons (eFz (eTup (aCons (eFz (eTup (aCons (eFz (eVar 6)) (aCons (eFz (eVar 7)) (aCons (eFz (eVar 8)) aNil))))) aNil))) aNil)))) (aCons (eFz (eTup (aCons (eFz (eIf (tVal (eBin (opEq false) (eVar 6) (eVar 1))) (eVar 8) (eC (.int 0)))) aNil))) aNil)))) sNil)
    (sSeq (sApp [6, 7, 8] 4 (eTup (aCons (eFz (eVar 6)) (aCons (eFz (eVar 7)) (aCons (eFz (eVar 8)) aNil))))) sNil)) sNil)) sNil)
def f_rests : SF :=
  (sSeq (sAsg [] 3 (eBin opIx (eVar 0) (eC (.int 0))))
  (sSeq (sAsg [] 4 (eLst aNil))
  (sSeq (sFor [] (iEn (eBin opIx (eVar 0) (eC (.int 1)))) (gTp [(gNm 5), (gTp [(gNm 6), (gNm 7), (gNm 8)])]) b_rests_0)
  (sSeq (sRet [3] (eTup (aCons (eFz (eVar 3)) (aCons (eFz (eBi bTuple (aCons (eVar 4) aNil))) aNil)))) sNil))))
def s_rests : List D → M D := semF 9 f_rests
theorem e_rests (x0 x1 x2 : PyData) : s_rests [x0, x1, x2] = (f_rests [.d x0, .d x1, .d x2, .un, .un, .un, .un, .un, .un]).bind semR := rfl
def q_can_fit_0 : EF := eLc [9] (iEx (eCall s_others (aCons (eFz (eVar 0)) (aCons (eFz (eVar 1)) aNil)))) (gNm 9) (tVal (eBin (opIn true) (eVar 9) (eVar 2))) (eVar 9)
def q_can_fit_1 : EF := eLc [9, 11, 12] (iEx (eBin opIx (eVar 4) (eC (.int 1)))) (gTp [(gNm 9), (gNm 11), (gNm 12)]) (tAn (tVal (eBin (opIn false) (eVar 9) (eVar 8))) (tVal (eBin (opIn false) (eVar 11) (eVar 8)))) (eVar 12)
def q_can_fit_2 : EF := eLc [9] (iEx (eVar 8)) (gNm 9) tTrue (eBin opIx (eBin opIx (eVar 4) (eC (.int 0))) (eVar 9))
def b_can_fit_3 : SF :=
  (sSeq (sAsg [] 10 (eTmp [12] (eBi bSum2 (aCons q_can_fit_1 aNil))))
  (sSeq (sIf [] (tVal (eBin opGt (eBin opAdd (eTmp [8] (eBi bSum2 (aCons q_can_fit_2 aNil))) (eVar 10)) (eBin opMul (eBi bLen (aCons (eVar 8) aNil)) (eVar 5))))
   (sSeq (sRet [] (eC (.bool false))) sNil)
   sNil) sNil))
def b_can_fit_4 : SF :=
  (sSeq (sFor [6, 7] (iEx (eCall s_choices (aCons (eFz (eVar 6)) (aCons (eFz (eVar 7)) aNil)))) (gNm 8) b_can_fit_3) sNil)
def f_can_fit : SF :=
  (sSeq (sAsg [0, 1, 3] 4 (eCall s_rests (aCons (eFz (eVar 0)) (aCons (eFz (eVar 1)) (aCons (eFz (eVar 3)) aNil)))))
  (sSeq (sAsg [0, 1] 5 (eCall s_most_of (aCons (eFz (eVar 0)) (aCons (eFz (eVar 1)) aNil))))
  (sSeq (sIf [4, 1] (tVal (eBin opLt (eBin opAdd (eBin opIx (eBin opIx (eVar 4) (eC (.int 0))) (eVar 1)) (eCall s_left_of (aCons (eFz (eVar 4)) (aCons (eFz (eVar 1)) aNil)))) (eVar 5)))
   (sSeq (sRet [] (eC (.bool false))) sNil)
   sNil)
  (sSeq (sAsg [9, 0, 1] 6 q_can_fit_0)
  (sSeq (sFor [] (iR2 (eC (.int 1)) (eBin opAdd (eBi bLen (aCons (eVar 6) aNil)) (eC (.int 1)))) (gNm 7) b_can_fit_4)
  (sSeq (sRet [] (eC (.bool true))) sNil))))))
def s_can_fit : List D → M D := semF 13 f_can_fit
theorem e_can_fit (x0 x1 x2 x3 : PyData) : s_can_fit [x0, x1, x2, x3] = (f_can_fit [.d x0, .d x1, .d x2, .d x3, .un, .un, .un, .un, .un, .un, .un, .un, .un]).bind semR := rfl
def q_first_season_0 : EF := eLc [8] (iEx (eVar 7)) (gNm 8) (tVal (eCall s_can_fit (aCons (eFz (eVar 0)) (aCons (eFz (eVar 1)) (aCons (eFz (eVar 2)) (aCons (eFz (eBin opAdd (eVar 3) (eTup (aCons (eFz (eVar 8)) aNil)))) aNil)))))) (eVar 8)
def b_first_season_1 : SF :=
  (sSeq (sAsg [6] 7 (eIf (tVal (eBin (opEq false) (eVar 4) (eVar 1))) (eLst (aCons (eFz (eVar 6)) aNil)) (eIf (tVal (eBin (opEq false) (eVar 5) (eVar 1))) (eLst (aCons (eFz (eC (.int 0))) aNil)) (lstRg (iR1 (eBin opAdd (eVar 6) (eC (.int 1))))))))
  (sSeq (sAsg [8, 7, 0, 1, 2, 8] 3 (eBin opAdd (eVar 3) (eTup (aCons (eFz (eBin opIx q_first_season_0 (eC (.int 0)))) aNil)))) sNil))
def f_first_season : SF :=
  (sSeq (sAsg [] 3 (eTup aNil))
  (sSeq (sFor [] (iEx (eBin opIx (eVar 0) (eC (.int 1)))) (gTp [(gNm 4), (gNm 5), (gNm 6)]) b_first_season_1)
  (sSeq (sRet [3] (eVar 3)) sNil)))
def s_first_season : List D → M D := semF 9 f_first_season
theorem e_first_season (x0 x1 x2 : PyData) : s_first_season [x0, x1, x2] = (f_first_season [.d x0, .d x1, .d x2, .un, .un, .un, .un, .un, .un]).bind semR := rfl
def b_paper_0 : SF :=
  (sSeq (sAsg [0, 1, 4] 5 (eCall s_weight_against (aCons (eFz (eVar 0)) (aCons (eFz (eVar 1)) (aCons (eFz (eVar 4)) aNil)))))
  (sSeq (sIf [] (tVal (eBin (opIs false) (eVar 5) (eC .none)))
   (sSeq (sRet [0, 1, 4] (eTup (aCons (eFz (eC (.str "season"))) (aCons (eFz (eCall s_first_season (aCons (eFz (eVar 0)) (aCons (eFz (eVar 1)) (aCons (eFz (eVar 4)) aNil))))) aNil)))) sNil)
   sNil)
  (sSeq (sApp [5] 3 (eVar 5)) sNil)))
def f_paper : SF :=
  (sSeq (sExp [0] (eCall s_need_league (aCons (eFz (eVar 0)) aNil)))
  (sSeq (sExp [0, 1] (eCall s_need_side (aCons (eFz (eVar 0)) (aCons (eFz (eVar 1)) aNil))))
  (sSeq (sExp [0, 2] (eCall s_need_place (aCons (eFz (eVar 0)) (aCons (eFz (eVar 2)) aNil))))
  (sSeq (sAsg [] 3 (eLst aNil))
  (sSeq (sFor [0, 1] (iEx (eCall s_choices (aCons (eFz (eCall s_others (aCons (eFz (eVar 0)) (aCons (eFz (eVar 1)) aNil)))) (aCons (eFz (eBin opSub (eVar 2) (eC (.int 1)))) aNil)))) (gNm 4) b_paper_0)
  (sSeq (sRet [] (eTup (aCons (eFz (eC (.str "barred"))) (aCons (eFz (eBi bTuple (aCons (eVar 3) aNil))) aNil)))) sNil))))))
def s_paper : List D → M D := semF 6 f_paper
theorem e_paper (x0 x1 x2 : PyData) : s_paper [x0, x1, x2] = (f_paper [.d x0, .d x1, .d x2, .un, .un, .un]).bind semR := rfl
def f_can_reach : SF :=
  (sSeq (sRet [0, 1, 2] (eBin (opEq false) (eBin opIx (eCall s_paper (aCons (eFz (eVar 0)) (aCons (eFz (eVar 1)) (aCons (eFz (eVar 2)) aNil)))) (eC (.int 0))) (eC (.str "season")))) sNil)
def s_can_reach : List D → M D := semF 3 f_can_reach
theorem e_can_reach (x0 x1 x2 : PyData) : s_can_reach [x0, x1, x2] = (f_can_reach [.d x0, .d x1, .d x2]).bind semR := rfl
def q_is_bar_0 : EF := eLc [4] (iEx (eVar 3)) (gNm 4) tTrue (eCall s_is_count (aCons (eFz (eVar 4)) (aCons (eFz (eC (.int 0))) (aCons (eFz (eBin opSub (eBi bLen (aCons (eBin opIx (eVar 0) (eC (.int 0))) aNil)) (eC (.int 1)))) aNil))))
def q_is_bar_1 : EF := eLc [4] (iEx (eVar 3)) (gNm 4) tTrue (eBin (opIn false) (eVar 4) (eVar 2))
def f_is_bar : SF :=
  (sSeq (sIf [] (tOr (tNt (tVal (eUn (opIsi "tuple") (eVar 3)))) (tVal (eBin (opEq false) (eVar 3) (eTup aNil))))
   (sSeq (sRet [] (eC (.bool false))) sNil)
   sNil)
  (sSeq (sIf [4, 3] (tNt (tVal (eBi bAll (aCons q_is_bar_0 aNil))))
   (sSeq (sRet [] (eC (.bool false))) sNil)
   sNil)
  (sSeq (sIf [0, 1] (tVal (eBin (opIn true) (eVar 3) (eCall s_choices (aCons (eFz (eCall s_others (aCons (eFz (eVar 0)) (aCons (eFz (eVar 1)) aNil)))) (aCons (eFz (eBi bLen (aCons (eVar 3) aNil))) aNil)))))
   (sSeq (sRet [] (eC (.bool false))) sNil)
   sNil)
  (sSeq (sRet [3, 0, 1, 3] (eAn (eNt (eBi bAny (aCons q_is_bar_1 aNil))) (eCall s_weighs_down (aCons (eFz (eVar 0)) (aCons (eFz (eVar 1)) (aCons (eFz (eVar 3)) aNil)))))) sNil))))
def s_is_bar : List D → M D := semF 5 f_is_bar
theorem e_is_bar (x0 x1 x2 x3 : PyData) : s_is_bar [x0, x1, x2, x3] = (f_is_bar [.d x0, .d x1, .d x2, .d x3, .un]).bind semR := rfl
def q_shows_0 : EF := eLc [5, 6] (iZp (eVar 4) (eBin opIx (eVar 3) (eC (.int 1)))) (gTp [(gNm 5), (gNm 6)]) tTrue (eCall s_is_bar (aCons (eFz (eVar 0)) (aCons (eFz (eVar 1)) (aCons (eFz (eVar 5)) (aCons (eFz (eVar 6)) aNil)))))
def f_shows : SF :=
  (sSeq (sExp [0] (eCall s_need_league (aCons (eFz (eVar 0)) aNil)))
  (sSeq (sExp [0, 1] (eCall s_need_side (aCons (eFz (eVar 0)) (aCons (eFz (eVar 1)) aNil))))
  (sSeq (sExp [0, 2] (eCall s_need_place (aCons (eFz (eVar 0)) (aCons (eFz (eVar 2)) aNil))))
  (sSeq (sIf [] (tOr (tNt (tVal (eUn (opIsi "tuple") (eVar 3)))) (tOr (tVal (eBin (opEq true) (eBi bLen (aCons (eVar 3) aNil)) (eC (.int 2)))) (tNt (tVal (eUn (opIsi "tuple") (eBin opIx (eVar 3) (eC (.int 1))))))))
   (sSeq (sRet [] (eC (.bool false))) sNil)
   sNil)
  (sSeq (sIf [] (tVal (eBin (opEq false) (eBin opIx (eVar 3) (eC (.int 0))) (eC (.str "season"))))
   (sSeq (sRet [0, 0] (eAn (eCall s_is_season (aCons (eFz (eVar 0)) (aCons (eFz (eBin opIx (eVar 3) (eC (.int 1)))) aNil))) (eBin opLe (eBin opIx (eCall s_places_of (aCons (eFz (eCall s_ended_of (aCons (eFz (eVar 0)) (aCons (eFz (eBin opIx (eVar 3) (eC (.int 1)))) aNil)))) aNil)) (eVar 1)) (eVar 2)))) sNil)
   sNil)
  (sSeq (sAsg [0, 1] 4 (eCall s_choices (aCons (eFz (eCall s_others (aCons (eFz (eVar 0)) (aCons (eFz (eVar 1)) aNil)))) (aCons (eFz (eBin opSub (eVar 2) (eC (.int 1)))) aNil))))
  (sSeq (sIf [] (tOr (tVal (eBin (opEq true) (eBin opIx (eVar 3) (eC (.int 0))) (eC (.str "barred")))) (tVal (eBin (opEq true) (eBi bLen (aCons (eBin opIx (eVar 3) (eC (.int 1))) aNil)) (eBi bLen (aCons (eVar 4) aNil)))))
   (sSeq (sRet [] (eC (.bool false))) sNil)
   sNil)
  (sSeq (sRet [0, 1, 5, 6, 4] (eBi bAll (aCons q_shows_0 aNil))) sNil))))))))
def s_shows : List D → M D := semF 7 f_shows
theorem e_shows (x0 x1 x2 x3 : PyData) : s_shows [x0, x1, x2, x3] = (f_shows [.d x0, .d x1, .d x2, .d x3, .un, .un, .un]).bind semR := rfl
def q_best_0 : EF := eLc [2] (iR2 (eC (.int 1)) (eBin opAdd (eBi bLen (aCons (eBin opIx (eVar 0) (eC (.int 0))) aNil)) (eC (.int 1)))) (gNm 2) (tVal (eCall s_can_reach (aCons (eFz (eVar 0)) (aCons (eFz (eVar 1)) (aCons (eFz (eVar 2)) aNil))))) (eVar 2)
def f_best : SF :=
  (sSeq (sExp [0] (eCall s_need_league (aCons (eFz (eVar 0)) aNil)))
  (sSeq (sExp [0, 1] (eCall s_need_side (aCons (eFz (eVar 0)) (aCons (eFz (eVar 1)) aNil))))
  (sSeq (sRet [2, 0, 1, 2] (eBin opIx q_best_0 (eC (.int 0)))) sNil)))
def s_best : List D → M D := semF 3 f_best
theorem e_best (x0 x1 : PyData) : s_best [x0, x1] = (f_best [.d x0, .d x1, .un]).bind semR := rfl
def q_still_0 : EF := eLc [2] (iR1 (eBi bLen (aCons (eBin opIx (eVar 0) (eC (.int 0))) aNil))) (gNm 2) (tVal (eCall s_can_reach (aCons (eFz (eVar 0)) (aCons (eFz (eVar 2)) (aCons (eFz (eVar 1)) aNil))))) (eVar 2)
def f_still : SF :=
  (sSeq (sExp [0] (eCall s_need_league (aCons (eFz (eVar 0)) aNil)))
  (sSeq (sExp [0, 1] (eCall s_need_place (aCons (eFz (eVar 0)) (aCons (eFz (eVar 1)) aNil))))
  (sSeq (sRet [2, 0, 2, 1] q_still_0) sNil)))
def s_still : List D → M D := semF 3 f_still
theorem e_still (x0 x1 : PyData) : s_still [x0, x1] = (f_still [.d x0, .d x1, .un]).bind semR := rfl
def q__law_small_0 : EF := eLc [9] (iEx (eVar 3)) (gNm 9) tTrue (eBin opIx (eVar 9) (eC (.int 2)))
def b__law_small_1 : SF :=
  (sSeq (sAsg [] 8 (eBi bMin (aCons (eVar 8) (aCons (eC (.int 3)) aNil))))
  (sSeq (sIf [] (tAn (tVal (eBin opLt (eBin opMul (eVar 2) (eBin opAdd (eVar 8) (eC (.int 1)))) (eVar 1))) (tVal (eBin opLt (eBin opAdd (eTmp [3] (eBi bSum2 (aCons q__law_small_0 aNil))) (eVar 8)) (eC (.int 13)))))
   (sSeq (sAsg [] 2 (eBin opMul (eVar 2) (eBin opAdd (eVar 8) (eC (.int 1)))))
   (sSeq (sApp [6, 7, 8] 3 (eTup (aCons (eFz (eVar 6)) (aCons (eFz (eVar 7)) (aCons (eFz (eVar 8)) aNil))))) sNil))
   sNil) sNil))
def q__law_small_2 : EF := eLc [6] (iEx (eVar 4)) (gNm 6) tTrue (eBin opMul (eBin opMod (eVar 6) (eC (.int 7))) (eBin opIx (eLst (aCons (eFz (eC (.int 1))) (aCons (eFz (eC (.int 1))) (aCons (eFz (eC (.int 3))) aNil)))) (eBin opMod (eBin opDiv (eVar 0) (eC (.int 4096))) (eC (.int 3)))))
def f__law_small : SF :=
  (sSeq (sUnp [0] (gTp [(gNm 4), (gNm 5)]) (eCall s__law_league (aCons (eFz (eVar 0)) (aCons (eFz (eC (.int 5))) aNil))))
  (sSeq (sAsg [] 2 (eC (.int 1)))
  (sSeq (sAsg [] 3 (eLst aNil))
  (sSeq (sFor [5] (iEx (eVar 5)) (gTp [(gNm 6), (gNm 7), (gNm 8)]) b__law_small_1)
  (sSeq (sRet [4] (eTup (aCons (eFz (eBi bTuple (aCons q__law_small_2 aNil))) (aCons (eFz (eBi bTuple (aCons (eVar 3) aNil))) aNil)))) sNil)))))
def s__law_small : List D → M D := semF 10 f__law_small
theorem e__law_small (x0 x1 : PyData) : s__law_small [x0, x1] = (f__law_small [.d x0, .d x1, .un, .un, .un, .un, .un, .un, .un, .un]).bind semR := rfl
def b__law_small_b_0 : SF :=
  (sSeq (sAsg [] 7 (eBi bMin (aCons (eVar 7) (aCons (eC (.int 3)) aNil))))
  (sSeq (sIf [] (tVal (eBin opLt (eBin opMul (eVar 1) (eBin opAdd (eVar 7) (eC (.int 1)))) (eC (.int 400))))
   (sSeq (sAsg [] 1 (eBin opMul (eVar 1) (eBin opAdd (eVar 7) (eC (.int 1)))))
   (sSeq (sApp [5, 6, 7] 2 (eTup (aCons (eFz (eVar 5)) (aCons (eFz (eVar 6)) (aCons (eFz (eVar 7)) aNil))))) sNil))
   sNil) sNil))
def q__law_small_b_1 : EF := eLc [5] (iEx (eVar 3)) (gNm 5) tTrue (eBin opMul (eBin opMod (eVar 5) (eC (.int 7))) (eBin opIx (eLst (aCons (eFz (eC (.int 1))) (aCons (eFz (eC (.int 1))) (aCons (eFz (eC (.int 3))) aNil)))) (eBin opMod (eBin opDiv (eVar 0) (eC (.int 4096))) (eC (.int 3)))))
def f__law_small_b : SF :=
  (sSeq (sUnp [0] (gTp [(gNm 3), (gNm 4)]) (eCall s__law_league (aCons (eFz (eVar 0)) (aCons (eFz (eC (.int 5))) aNil))))
  (sSeq (sAsg [] 1 (eC (.int 1)))
  (sSeq (sAsg [] 2 (eLst aNil))
  (sSeq (sFor [4] (iEx (eVar 4)) (gTp [(gNm 5), (gNm 6), (gNm 7)]) b__law_small_b_0)
  (sSeq (sRet [3] (eTup (aCons (eFz (eBi bTuple (aCons q__law_small_b_1 aNil))) (aCons (eFz (eBi bTuple (aCons (eVar 2) aNil))) aNil)))) sNil)))))
def s__law_small_b : List D → M D := semF 8 f__law_small_b
theorem e__law_small_b (x0 : PyData) : s__law_small_b [x0] = (f__law_small_b [.d x0, .un, .un, .un, .un, .un, .un, .un]).bind semR := rfl
def q__law_all_ways_0 : EF := eLc [7] (iR1 (eBin opAdd (eVar 4) (eC (.int 1)))) (gNm 7) tTrue (eBin opAdd (eVar 6) (eTup (aCons (eFz (eVar 7)) aNil)))
def b__law_all_ways_1 : SF :=
  (sSeq (sExt [7] 5 q__law_all_ways_0) sNil)
def b__law_all_ways_2 : SF :=
  (sSeq (sAsg [] 5 (eLst aNil))
  (sSeq (sFor [1] (iEx (eVar 1)) (gNm 6) b__law_all_ways_1)
  (sSeq (sAsg [5] 1 (eVar 5)) sNil)))
def f__law_all_ways : SF :=
  (sSeq (sAsg [] 1 (eLst (aCons (eFz (eTup aNil)) aNil)))
  (sSeq (sFor [] (iEx (eBin opIx (eVar 0) (eC (.int 1)))) (gTp [(gNm 2), (gNm 3), (gNm 4)]) b__law_all_ways_2)
  (sSeq (sRet [1] (eVar 1)) sNil)))
def s__law_all_ways : List D → M D := semF 8 f__law_all_ways
theorem e__law_all_ways (x0 : PyData) : s__law_all_ways [x0] = (f__law_all_ways [.d x0, .un, .un, .un, .un, .un, .un, .un]).bind semR := rfl
def f__law_match : SF :=
  (sSeq (sIf [] (tVal (eBin (opEq false) (eBin opIx (eVar 0) (eC (.int 1))) (eTup aNil)))
   (sSeq (sRet [] (eC .none)) sNil)
   sNil)
  (sSeq (sUnp [] (gTp [(gNm 2), (gNm 3), (gNm 4)]) (eBin opIx (eBin opIx (eVar 0) (eC (.int 1))) (eBin opMod (eVar 1) (eBi bLen (aCons (eBin opIx (eVar 0) (eC (.int 1))) aNil)))))
  (sSeq (sRet [2, 3, 3, 2] (eBin opIx (eLst (aCons (eFz (eTup (aCons (eFz (eVar 2)) (aCons (eFz (eVar 3)) aNil)))) (aCons (eFz (eTup (aCons (eFz (eVar 3)) (aCons (eFz (eVar 2)) aNil)))) aNil))) (eBin opMod (eBin opDiv (eVar 1) (eC (.int 64))) (eC (.int 2))))) sNil)))
def s__law_match : List D → M D := semF 5 f__law_match
theorem e__law_match (x0 x1 : PyData) : s__law_match [x0, x1] = (f__law_match [.d x0, .d x1, .un, .un, .un]).bind semR := rfl
def q_between_0 : EF := eLc [4, 5, 6] (iEx (eBin opIx (eVar 0) (eC (.int 1)))) (gTp [(gNm 4), (gNm 5), (gNm 6)]) (tVal (eBin (opEq false) (eTup (aCons (eFz (eVar 4)) (aCons (eFz (eVar 5)) aNil))) (eTup (aCons (eFz (eBi bMin (aCons (eVar 1) (aCons (eVar 2) aNil)))) (aCons (eFz (eBi bMax (aCons (eVar 1) (aCons (eVar 2) aNil)))) aNil))))) (eVar 6)
def f_between : SF :=
  (sSeq (sAsg [6, 4, 5] 3 q_between_0)
  (sSeq (sRet [] (eIf (tVal (eBin (opEq true) (eVar 3) (eLst aNil))) (eBin opIx (eVar 3) (eC (.int 0))) (eC (.int 0)))) sNil))
def s_between : List D → M D := semF 7 f_between
theorem e_between (x0 x1 x2 : PyData) : s_between [x0, x1, x2] = (f_between [.d x0, .d x1, .d x2, .un, .un, .un, .un]).bind semR := rfl
def b_above_at_0 : SF :=
  (sSeq (sAsg [0, 1, 5] 6 (eCall s_between (aCons (eFz (eVar 0)) (aCons (eFz (eVar 1)) (aCons (eFz (eVar 5)) aNil)))))
  (sSeq (sAsg [0, 5] 7 (eBin opAdd (eBin opSub (eBin opAdd (eBin opIx (eBin opIx (eVar 0) (eC (.int 0))) (eVar 5)) (eCall s_left_of (aCons (eFz (eVar 0)) (aCons (eFz (eVar 5)) aNil)))) (eVar 6)) (eBi bMin (aCons (eVar 6) (aCons (eVar 3) aNil)))))
  (sSeq (sIf [] (tVal (eBin opGt (eVar 7) (eBin opAdd (eBin opIx (eBin opIx (eVar 0) (eC (.int 0))) (eVar 1)) (eVar 2))))
   (sSeq (sApp [5] 4 (eVar 5)) sNil)
   sNil) sNil)))
def f_above_at : SF :=
  (sSeq (sAsg [0, 1] 3 (eBin opSub (eCall s_left_of (aCons (eFz (eVar 0)) (aCons (eFz (eVar 1)) aNil))) (eVar 2)))
  (sSeq (sAsg [] 4 (eLst aNil))
  (sSeq (sFor [0, 1] (iEx (eCall s_others (aCons (eFz (eVar 0)) (aCons (eFz (eVar 1)) aNil)))) (gNm 5) b_above_at_0)
  (sSeq (sRet [4] (eVar 4)) sNil))))
def s_above_at : List D → M D := semF 8 f_above_at
theorem e_above_at (x0 x1 x2 : PyData) : s_above_at [x0, x1, x2] = (f_above_at [.d x0, .d x1, .d x2, .un, .un, .un, .un, .un]).bind semR := rfl
def b_first_at_0 : SF :=
  (sSeq (sIf [0, 1, 2] (tVal (eBin (opEq false) (eCall s_above_at (aCons (eFz (eVar 0)) (aCons (eFz (eVar 1)) (aCons (eFz (eVar 2)) aNil)))) (eLst aNil)))
   (sSeq (sRet [2] (eVar 2)) sNil)
   sNil) sNil)
def f_first_at : SF :=
  (sSeq (sExp [0] (eCall s_need_league (aCons (eFz (eVar 0)) aNil)))
  (sSeq (sExp [0, 1] (eCall s_need_side (aCons (eFz (eVar 0)) (aCons (eFz (eVar 1)) aNil))))
  (sSeq (sFor [0, 1] (iR1 (eBin opAdd (eCall s_left_of (aCons (eFz (eVar 0)) (aCons (eFz (eVar 1)) aNil))) (eC (.int 1)))) (gNm 2) b_first_at_0)
  (sSeq (sRet [] (eC .none)) sNil))))
def s_first_at : List D → M D := semF 3 f_first_at
theorem e_first_at (x0 x1 : PyData) : s_first_at [x0, x1] = (f_first_at [.d x0, .d x1, .un]).bind semR := rfl
def f_rivals : SF :=
  (sSeq (sExp [0] (eCall s_need_league (aCons (eFz (eVar 0)) aNil)))
  (sSeq (sExp [0, 1] (eCall s_need_side (aCons (eFz (eVar 0)) (aCons (eFz (eVar 1)) aNil))))
  (sSeq (sIf [2, 0, 1] (tNt (tVal (eCall s_is_count (aCons (eFz (eVar 2)) (aCons (eFz (eC (.int 0))) (aCons (eFz (eCall s_left_of (aCons (eFz (eVar 0)) (aCons (eFz (eVar 1)) aNil)))) aNil))))))
   (sSeq (sRaise "BadPlace") sNil)
   sNil)
  (sSeq (sRet [0, 1, 2] (eCall s_above_at (aCons (eFz (eVar 0)) (aCons (eFz (eVar 1)) (aCons (eFz (eVar 2)) aNil))))) sNil))))
def s_rivals : List D → M D := semF 3 f_rivals
theorem e_rivals (x0 x1 x2 : PyData) : s_rivals [x0, x1, x2] = (f_rivals [.d x0, .d x1, .d x2]).bind semR := rfl
def q_lacks_0 : EF := eLc [6] (iEx (eVar 2)) (gNm 6) (tVal (eBin (opEq true) (eVar 6) (eVar 4))) (eCall s_between (aCons (eFz (eVar 0)) (aCons (eFz (eVar 4)) (aCons (eFz (eVar 6)) aNil))))
def b_lacks_1 : SF :=
  (sSeq (sAsg [] 5 (eTmp [0, 4, 6, 2] (eBi bSum2 (aCons q_lacks_0 aNil))))
  (sSeq (sSto [0, 4] 3 (eVar 4) (eBi bMax (aCons (eC (.int 0)) (aCons (eBin opAdd (eBin opSub (eBin opSub (eBin opAdd (eBin opIx (eBin opIx (eVar 0) (eC (.int 0))) (eVar 1)) (eC (.int 1))) (eBin opIx (eBin opIx (eVar 0) (eC (.int 0))) (eVar 4))) (eCall s_left_of (aCons (eFz (eVar 0)) (aCons (eFz (eVar 4)) aNil)))) (eVar 5)) aNil)))) sNil))
def f_lacks : SF :=
  (sSeq (sDic 3)
  (sSeq (sFor [2] (iEx (eVar 2)) (gNm 4) b_lacks_1)
  (sSeq (sRet [3] (eVar 3)) sNil)))
def s_lacks : List D → M D := semF 7 f_lacks
theorem e_lacks (x0 x1 x2 : PyData) : s_lacks [x0, x1, x2] = (f_lacks [.d x0, .d x1, .d x2, .un, .un, .un, .un]).bind semR := rfl
def q_can_be_above_0 : EF := eLc [7, 8, 9] (iEx (eBin opIx (eVar 0) (eC (.int 1)))) (gTp [(gNm 7), (gNm 8), (gNm 9)]) (tAn (tVal (eBin (opIn false) (eVar 7) (eVar 2))) (tAn (tVal (eBin (opIn false) (eVar 8) (eVar 2))) (tOr (tVal (eBin (opIn false) (eVar 7) (eVar 5))) (tVal (eBin (opIn false) (eVar 8) (eVar 5)))))) (eVar 9)
def q_can_be_above_1 : EF := eLc [7] (iEx (eVar 5)) (gNm 7) tTrue (eBin opIx (eVar 3) (eVar 7))
def b_can_be_above_2 : SF :=
  (sSeq (sAsg [] 6 (eTmp [9] (eBi bSum2 (aCons q_can_be_above_0 aNil))))
  (sSeq (sIf [] (tVal (eBin opGt (eTmp [5] (eBi bSum2 (aCons q_can_be_above_1 aNil))) (eVar 6)))
   (sSeq (sRet [] (eC (.bool false))) sNil)
   sNil) sNil))
def b_can_be_above_3 : SF :=
  (sSeq (sFor [2, 4] (iEx (eCall s_choices (aCons (eFz (eVar 2)) (aCons (eFz (eVar 4)) aNil)))) (gNm 5) b_can_be_above_2) sNil)
def f_can_be_above : SF :=
  (sSeq (sAsg [0, 1, 2] 3 (eCall s_lacks (aCons (eFz (eVar 0)) (aCons (eFz (eVar 1)) (aCons (eFz (eVar 2)) aNil)))))
  (sSeq (sFor [] (iR2 (eC (.int 1)) (eBin opAdd (eBi bLen (aCons (eVar 2) aNil)) (eC (.int 1)))) (gNm 4) b_can_be_above_3)
  (sSeq (sRet [] (eC (.bool true))) sNil)))
def s_can_be_above : List D → M D := semF 10 f_can_be_above
theorem e_can_be_above (x0 x1 x2 : PyData) : s_can_be_above [x0, x1, x2] = (f_can_be_above [.d x0, .d x1, .d x2, .un, .un, .un, .un, .un, .un, .un]).bind semR := rfl
def q_worst_of_0 : EF := eLc [4] (iEx (eCall s_choices (aCons (eFz (eVar 2)) (aCons (eFz (eVar 3)) aNil)))) (gNm 4) tTrue (eCall s_can_be_above (aCons (eFz (eVar 0)) (aCons (eFz (eVar 1)) (aCons (eFz (eVar 4)) aNil))))
def b_worst_of_1 : SF :=
  (sSeq (sIf [0, 1, 4, 2, 3] (tVal (eBi bAny (aCons q_worst_of_0 aNil)))
   (sSeq (sRet [] (eBin opAdd (eVar 3) (eC (.int 1)))) sNil)
   sNil) sNil)
def f_worst_of : SF :=
  (sSeq (sAsg [0, 1] 2 (eCall s_others (aCons (eFz (eVar 0)) (aCons (eFz (eVar 1)) aNil))))
  (sSeq (sFor [] (iR3 (eBi bLen (aCons (eVar 2) aNil)) (eC (.int 0))) (gNm 3) b_worst_of_1)
  (sSeq (sRet [] (eC (.int 1))) sNil)))
def s_worst_of : List D → M D := semF 5 f_worst_of
theorem e_worst_of (x0 x1 : PyData) : s_worst_of [x0, x1] = (f_worst_of [.d x0, .d x1, .un, .un, .un]).bind semR := rfl
def f_worst : SF :=
  (sSeq (sExp [0] (eCall s_need_league (aCons (eFz (eVar 0)) aNil)))
  (sSeq (sExp [0, 1] (eCall s_need_side (aCons (eFz (eVar 0)) (aCons (eFz (eVar 1)) aNil))))
  (sSeq (sRet [0, 1] (eCall s_worst_of (aCons (eFz (eVar 0)) (aCons (eFz (eVar 1)) aNil)))) sNil)))
def s_worst : List D → M D := semF 2 f_worst
theorem e_worst (x0 x1 : PyData) : s_worst [x0, x1] = (f_worst [.d x0, .d x1]).bind semR := rfl
def f_need : SF :=
  (sSeq (sIf [] (tNt (tVal (eVar 0)))
   (sSeq (sRaise "BadText") sNil)
   sNil) sNil)
def s_need : List D → M D := semF 1 f_need
theorem e_need (x0 : PyData) : s_need [x0] = (f_need [.d x0]).bind semR := rfl
def f_need_b : SF :=
  (sSeq (sIf [] (tNt (tVal (eVar 0)))
   (sSeq (sRaise "BadRules") sNil)
   sNil) sNil)
def s_need_b : List D → M D := semF 1 f_need_b
theorem e_need_b (x0 : PyData) : s_need_b [x0] = (f_need_b [.d x0]).bind semR := rfl
def q_mark_0 : EF := eLc [4] (iEx (eVar 2)) (gNm 4) tTrue (eBin opIx (eBin opIx (eVar 0) (eVar 3)) (eVar 4))
def q_mark_1 : EF := eLc [5] (iEx (eVar 0)) (gNm 5) tTrue (eBin opIx (eVar 5) (eVar 3))
def f_mark : SF :=
  (sSeq (sIf [] (tVal (eBin (opEq false) (eVar 1) (eC (.str "wins"))))
   (sSeq (sRet [] (eBi bSum2 (aCons (eBin opIx (eVar 0) (eVar 3)) aNil))) sNil)
   sNil)
  (sSeq (sIf [] (tVal (eBin (opEq false) (eVar 1) (eC (.str "met"))))
   (sSeq (sRet [] (eTmp [2] (eBi bSum2 (aCons q_mark_0 aNil)))) sNil)
   sNil)
  (sSeq (sIf [] (tVal (eBin (opEq false) (eVar 1) (eC (.str "losses"))))
   (sSeq (sRet [] (eBin opSub (eC (.int 0)) (eTmp [0] (eBi bSum2 (aCons q_mark_1 aNil))))) sNil)
   sNil)
  (sSeq (sRet [] (eBi bMax (aCons (eBin opIx (eVar 0) (eVar 3)) aNil))) sNil))))
def s_mark : List D → M D := semF 6 f_mark
theorem e_mark (x0 x1 x2 x3 : PyData) : s_mark [x0, x1, x2, x3] = (f_mark [.d x0, .d x1, .d x2, .d x3, .un, .un]).bind semR := rfl
def q_parted_0 : EF := eLc [6] (iEx (eVar 2)) (gNm 6) tTrue (eTup (aCons (eFz (eCall s_mark (aCons (eFz (eVar 0)) (aCons (eFz (eVar 1)) (aCons (eFz (eVar 2)) (aCons (eFz (eVar 6)) aNil)))))) (aCons (eFz (eVar 6)) aNil)))
def q_parted_1 : EF := eLc [7, 6] (iEx (eVar 3)) (gTp [(gNm 7), (gNm 6)]) tTrue (eVar 7)
def q_parted_2 : EF := eLc [7, 6] (iEx (eVar 3)) (gTp [(gNm 7), (gNm 6)]) (tVal (eBin (opEq false) (eVar 7) (eVar 5))) (eVar 6)
def b_parted_3 : SF :=
  (sSeq (sApp [6, 3] 4 q_parted_2) sNil)
def f_parted : SF :=
  (sSeq (sAsg [0, 1, 2, 6, 6, 2] 3 q_parted_0)
  (sSeq (sAsg [] 4 (eLst aNil))
  (sSeq (sFor [7, 3] (iEx (eUn opRev (eUn oSrtSet q_parted_1))) (gNm 5) b_parted_3)
  (sSeq (sRet [4] (eVar 4)) sNil))))
def s_parted : List D → M D := semF 8 f_parted
theorem e_parted (x0 x1 x2 : PyData) : s_parted [x0, x1, x2] = (f_parted [.d x0, .d x1, .d x2, .un, .un, .un, .un, .un]).bind semR := rfl
def q__law_results_0 : EF := eLc [5] (iR1 (eVar 1)) (gNm 5) tTrue (eBin opMod (eCall s__law_drawn (aCons (eFz (eVar 0)) (aCons (eFz (eBin opAdd (eBin opMul (eC (.int 10)) (eVar 3)) (eVar 5))) aNil))) (eBin opIx (eLst (aCons (eFz (eC (.int 2))) (aCons (eFz (eC (.int 3))) (aCons (eFz (eC (.int 31))) aNil)))) (eBin opMod (eBin opDiv (eVar 0) (eC (.int 8))) (eC (.int 3)))))
def q__law_results_1 : EF := eLc [5, 6] (iEn (eVar 4)) (gTp [(gNm 5), (gNm 6)]) tTrue (eIf (tVal (eBin (opEq false) (eVar 5) (eVar 3))) (eC (.int 0)) (eVar 6))
def b__law_results_2 : SF :=
  (sSeq (sAsg [0] 4 q__law_results_0)
  (sSeq (sApp [6, 4] 2 q__law_results_1) sNil))
def f__law_results : SF :=
  (sSeq (sAsg [] 1 (eBin opAdd (eC (.int 2)) (eBin opMod (eVar 0) (eC (.int 5)))))
  (sSeq (sAsg [] 2 (eLst aNil))
  (sSeq (sFor [] (iR1 (eVar 1)) (gNm 3) b__law_results_2)
  (sSeq (sRet [2] (eVar 2)) sNil))))
def s__law_results : List D → M D := semF 7 f__law_results
theorem e__law_results (x0 : PyData) : s__law_results [x0] = (f__law_results [.d x0, .un, .un, .un, .un, .un, .un]).bind semR := rfl
def f__law_rules : SF :=
  (sSeq (sAsg [] 1 (eLst (aCons (eFz (eLst (aCons (eFz (eC (.str "wins"))) (aCons (eFz (eC (.str "met"))) aNil)))) (aCons (eFz (eLst (aCons (eFz (eC (.str "met"))) (aCons (eFz (eC (.str "wins"))) (aCons (eFz (eC (.str "losses"))) aNil))))) (aCons (eFz (eLst (aCons (eFz (eC (.str "best"))) aNil))) (aCons (eFz (eLst aNil)) (aCons (eFz (eLst (aCons (eFz (eC (.str "losses"))) (aCons (eFz (eC (.str "met"))) (aCons (eFz (eC (.str "best"))) (aCons (eFz (eC (.str "wins"))) aNil)))))) (aCons (eFz (eLst (aCons (eFz (eC (.str "met"))) aNil))) aNil))))))))
  (sSeq (sRet [] (eBin opIx (eBin opAdd (eVar 1) (eLst (aCons (eFz (eLst (aCons (eFz (eC (.str "wins"))) (aCons (eFz (eC (.str "losses"))) (aCons (eFz (eC (.str "met"))) aNil))))) (aCons (eFz (eLst (aCons (eFz (eC (.str "wins"))) (aCons (eFz (eC (.str "best"))) (aCons (eFz (eC (.str "met"))) (aCons (eFz (eC (.str "losses"))) aNil)))))) aNil)))) (eBin opMod (eVar 0) (eC (.int 8))))) sNil))
def s__law_rules : List D → M D := semF 2 f__law_rules
theorem e__law_rules (x0 : PyData) : s__law_rules [x0] = (f__law_rules [.d x0, .un]).bind semR := rfl
def b__law_orders_0 : SF :=
  (sSeq (sAppP 7 (pPopAt 6 (eBin opMod (eCall s__law_drawn (aCons (eFz (eVar 1)) (aCons (eFz (eBin opAdd (eBin opAdd (eC (.int 60)) (eBin opMul (eC (.int 7)) (eVar 3))) (eVar 5))) aNil))) (eBi bLen (aCons (eVar 6) aNil))))) sNil)
def b__law_orders_1 : SF :=
  (sSeq (sPar ([] ++ []) 6 7 (eBi bList (aCons (eVar 4) aNil)) (eLst aNil))
  (sSeq (sFor [] (iR1 (eBi bLen (aCons (eVar 4) aNil))) (gNm 5) b__law_orders_0)
  (sSeq (sApp [] 2 (eBi bTuple (aCons (eVar 7) aNil))) sNil)))
def f__law_orders : SF :=
  (sSeq (sAsg [] 2 (eLst aNil))
  (sSeq (sFor [0] (iEn (eVar 0)) (gTp [(gNm 3), (gNm 4)]) b__law_orders_1)
  (sSeq (sRet [] (eBi bTuple (aCons (eVar 2) aNil))) sNil)))
def s__law_orders : List D → M D := semF 8 f__law_orders
theorem e__law_orders (x0 x1 : PyData) : s__law_orders [x0, x1] = (f__law_orders [.d x0, .d x1, .un, .un, .un, .un, .un, .un]).bind semR := rfl
def b__law_orders_b_0 : SF :=
  (sSeq (sAppP 7 (pPopAt 6 (eBin opMod (eCall s__law_drawn (aCons (eFz (eVar 1)) (aCons (eFz (eBin opAdd (eBin opAdd (eC (.int 60)) (eBin opMul (eC (.int 7)) (eVar 3))) (eVar 5))) aNil))) (eBi bLen (aCons (eVar 6) aNil))))) sNil)
def b__law_orders_b_1 : SF :=
  (sSeq (sPar ([] ++ []) 6 7 (eBi bList (aCons (eVar 4) aNil)) (eLst aNil))
  (sSeq (sFor [] (iR1 (eBi bLen (aCons (eVar 4) aNil))) (gNm 5) b__law_orders_b_0)
  (sSeq (sApp [] 2 (eBi bTuple (aCons (eVar 7) aNil))) sNil)))
def f__law_orders_b : SF :=
  (sSeq (sAsg [] 2 (eLst aNil))
  (sSeq (sFor [0] (iEn (eVar 0)) (gTp [(gNm 3), (gNm 4)]) b__law_orders_b_1)
  (sSeq (sRet [] (eBi bTuple (aCons (eVar 2) aNil))) sNil)))
def s__law_orders_b : List D → M D := semF 8 f__law_orders_b
theorem e__law_orders_b (x0 x1 : PyData) : s__law_orders_b [x0, x1] = (f__law_orders_b [.d x0, .d x1, .un, .un, .un, .un, .un, .un]).bind semR := rfl
def b_all_sides_0 : SF :=
  (sSeq (sExt [2] 1 (eVar 2)) sNil)
def f_all_sides : SF :=
  (sSeq (sAsg [] 1 (eLst aNil))
  (sSeq (sFor [0] (iEx (eVar 0)) (gNm 2) b_all_sides_0)
  (sSeq (sRet [1] (eVar 1)) sNil)))
def s_all_sides : List D → M D := semF 3 f_all_sides
theorem e_all_sides (x0 : PyData) : s_all_sides [x0] = (f_all_sides [.d x0, .un, .un]).bind semR := rfl
def q_need_many_0 : EF := eLc [4] (iEx (eVar 0)) (gNm 4) tTrue (eBi bLen (aCons (eVar 4) aNil))
def q_need_many_1 : EF := eLc [4] (iEx (eSl (eVar 0) (oSome (eC (.int 1))) (oSome (eC (.int (-1)))))) (gNm 4) tTrue (eBin opDiv (eBi bLen (aCons (eVar 4) aNil)) (eC (.int 2)))
def f_need_many : SF :=
  (sSeq (sAsg [0] 2 (eBi bMin (aCons q_need_many_0 aNil)))
  (sSeq (sAsg [] 3 q_need_many_1)
  (sSeq (sIf [1, 2] (tNt (tVal (eCall s_is_count (aCons (eFz (eVar 1)) (aCons (eFz (eC (.int 0))) (aCons (eFz (eBi bMin (aCons (eBin opAdd (eLst (aCons (eFz (eVar 2)) aNil)) (eVar 3)) aNil))) aNil))))))
   (sSeq (sRaise "BadPlace") sNil)
   sNil) sNil)))
def s_need_many : List D → M D := semF 5 f_need_many
theorem e_need_many (x0 x1 : PyData) : s_need_many [x0, x1] = (f_need_many [.d x0, .d x1, .un, .un, .un]).bind semR := rfl
def b_stepped_0 : SF :=
  (sSeq (sAsg [2] 6 (eIf (tVal (eBin opGt (eVar 4) (eC (.int 0)))) (eVar 2) (eC (.int 0))))
  (sSeq (sAsg [2] 7 (eIf (tVal (eBin opLt (eBin opAdd (eVar 4) (eC (.int 1))) (eBi bLen (aCons (eVar 1) aNil)))) (eVar 2) (eC (.int 0))))
  (sSeq (sAsg [] 8 (eBi bList (aCons (eSl (eVar 5) (oSome (eVar 6)) (oSome (eBin opSub (eBi bLen (aCons (eVar 5) aNil)) (eVar 7)))) aNil)))
  (sSeq (sAsg [] 9 (eIf (tVal (eBin opGt (eVar 4) (eC (.int 0)))) (eBi bList (aCons (eSl (eBin opIx (eVar 1) (eBin opSub (eVar 4) (eC (.int 1)))) (oSome (eBin opSub (eBi bLen (aCons (eBin opIx (eVar 1) (eBin opSub (eVar 4) (eC (.int 1)))) aNil)) (eVar 2))) oNone) aNil)) (eLst aNil)))
  (sSeq (sAsg [] 10 (eIf (tVal (eBin opLt (eBin opAdd (eVar 4) (eC (.int 1))) (eBi bLen (aCons (eVar 1) aNil)))) (eBi bList (aCons (eSl (eBin opIx (eVar 1) (eBin opAdd (eVar 4) (eC (.int 1)))) oNone (oSome (eVar 2))) aNil)) (eLst aNil)))
  (sSeq (sApp [] 3 (eBi bTuple (aCons (eBi bSorted2 (aCons (eBin opAdd (eBin opAdd (eVar 8) (eVar 9)) (eVar 10)) aNil)) aNil))) sNil))))))
def f_stepped : SF :=
  (sSeq (sAsg [] 3 (eLst aNil))
  (sSeq (sFor [1] (iEn (eVar 1)) (gTp [(gNm 4), (gNm 5)]) b_stepped_0)
  (sSeq (sRet [] (eBi bTuple (aCons (eVar 3) aNil))) sNil)))
def s_stepped : List D → M D := semF 11 f_stepped
theorem e_stepped (x0 x1 x2 : PyData) : s_stepped [x0, x1, x2] = (f_stepped [.d x0, .d x1, .d x2, .un, .un, .un, .un, .un, .un, .un, .un]).bind semR := rfl
def q_is_order_0 : EF := eLc [2] (iEx (eVar 0)) (gNm 2) tTrue (eCall s_is_count (aCons (eFz (eVar 2)) (aCons (eFz (eC (.int 0))) (aCons (eFz (eBin opSub (eC (.int 9)) (eC (.int 1)))) aNil))))
def f_is_order : SF :=
  (sSeq (sRet [2, 0] (eAn (eBi bAll (aCons q_is_order_0 aNil)) (eBin (opEq false) (eBi bSorted2 (aCons (eVar 0) aNil)) (eBi bList (aCons (eVar 1) aNil))))) sNil)
def s_is_order : List D → M D := semF 3 f_is_order
theorem e_is_order (x0 x1 : PyData) : s_is_order [x0, x1] = (f_is_order [.d x0, .d x1, .un]).bind semR := rfl
def q__law_chain_0 : EF := eLc [6] (iR1 (eBin opAdd (eC (.int 1)) (eBin opMod (eVar 0) (eC (.int 4))))) (gNm 6) tTrue (eBin opAdd (eC (.int 1)) (eBin opMod (eCall s__law_drawn (aCons (eFz (eVar 0)) (aCons (eFz (eVar 6)) aNil))) (eVar 1)))
def b__law_chain_1 : SF :=
  (sSeq (sAsg [] 2 (eSl (eVar 2) oNone (oSome (eC (.int (-1)))))) sNil)
def b__law_chain_2 : SF :=
  (sSeq (sAppP 8 (pPopAt 4 (eBin opMod (eCall s__law_drawn (aCons (eFz (eVar 0)) (aCons (eFz (eBin opAdd (eBin opAdd (eC (.int 10)) (eBin opMul (eC (.int 7)) (eVar 6))) (eVar 9))) aNil))) (eBi bLen (aCons (eVar 4) aNil))))) sNil)
def b__law_chain_3 : SF :=
  (sSeq (sAsg [] 8 (eLst aNil))
  (sSeq (sFor [] (iR1 (eVar 7)) (gNm 9) b__law_chain_2)
  (sSeq (sApp [] 5 (eBi bTuple (aCons (eBi bSorted2 (aCons (eVar 8) aNil)) aNil))) sNil)))
def q__law_chain_4 : EF := eLc [7] (iEx (eSl (eVar 2) (oSome (eC (.int 1))) (oSome (eC (.int (-1)))))) (gNm 7) tTrue (eBin opDiv (eVar 7) (eC (.int 2)))
def f__law_chain : SF :=
  (sSeq (sAsg [0, 6] 2 q__law_chain_0)
  (sSeq (sWh 200 [] (tVal (eBin opGt (eBi bSum2 (aCons (eVar 2) aNil)) (eC (.int 9)))) b__law_chain_1)
  (sSeq (sPar ([] ++ []) 4 5 (lstRg (iR1 (eC (.int 9)))) (eLst aNil))
  (sSeq (sFor [2] (iEn (eVar 2)) (gTp [(gNm 6), (gNm 7)]) b__law_chain_3)
  (sSeq (sAsg [] 3 (eBi bMin (aCons (eBin opAdd (eVar 2) q__law_chain_4) aNil)))
  (sSeq (sRet [3] (eTup (aCons (eFz (eBi bTuple (aCons (eVar 5) aNil))) (aCons (eFz (eVar 3)) aNil)))) sNil))))))
def s__law_chain : List D → M D := semF 10 f__law_chain
theorem e__law_chain (x0 x1 : PyData) : s__law_chain [x0, x1] = (f__law_chain [.d x0, .d x1, .un, .un, .un, .un, .un, .un, .un, .un]).bind semR := rfl
def q__law_chain_b_0 : EF := eLc [6] (iR1 (eBin opAdd (eC (.int 1)) (eBin opMod (eVar 0) (eC (.int 4))))) (gNm 6) tTrue (eBin opAdd (eC (.int 1)) (eBin opMod (eCall s__law_drawn (aCons (eFz (eVar 0)) (aCons (eFz (eVar 6)) aNil))) (eVar 1)))
def b__law_chain_b_1 : SF :=
  (sSeq (sAsg [] 2 (eSl (eVar 2) oNone (oSome (eC (.int (-1)))))) sNil)
def b__law_chain_b_2 : SF :=
  (sSeq (sAppP 8 (pPopAt 4 (eBin opMod (eCall s__law_drawn (aCons (eFz (eVar 0)) (aCons (eFz (eBin opAdd (eBin opAdd (eC (.int 10)) (eBin opMul (eC (.int 7)) (eVar 6))) (eVar 9))) aNil))) (eBi bLen (aCons (eVar 4) aNil))))) sNil)
def b__law_chain_b_3 : SF :=
  (sSeq (sAsg [] 8 (eLst aNil))
  (sSeq (sFor [] (iR1 (eVar 7)) (gNm 9) b__law_chain_b_2)
  (sSeq (sApp [] 5 (eBi bTuple (aCons (eBi bSorted2 (aCons (eVar 8) aNil)) aNil))) sNil)))
def q__law_chain_b_4 : EF := eLc [7] (iEx (eSl (eVar 2) (oSome (eC (.int 1))) (oSome (eC (.int (-1)))))) (gNm 7) tTrue (eBin opDiv (eVar 7) (eC (.int 2)))
def f__law_chain_b : SF :=
  (sSeq (sAsg [0, 6] 2 q__law_chain_b_0)
  (sSeq (sWh 200 [] (tVal (eBin opGt (eBi bSum2 (aCons (eVar 2) aNil)) (eC (.int 9)))) b__law_chain_b_1)
  (sSeq (sPar ([] ++ []) 4 5 (lstRg (iR1 (eC (.int 9)))) (eLst aNil))
  (sSeq (sFor [2] (iEn (eVar 2)) (gTp [(gNm 6), (gNm 7)]) b__law_chain_b_3)
  (sSeq (sAsg [] 3 (eBi bMin (aCons (eBin opAdd (eVar 2) q__law_chain_b_4) aNil)))
  (sSeq (sRet [3] (eTup (aCons (eFz (eBi bTuple (aCons (eVar 5) aNil))) (aCons (eFz (eVar 3)) aNil)))) sNil))))))
def s__law_chain_b : List D → M D := semF 10 f__law_chain_b
theorem e__law_chain_b (x0 x1 : PyData) : s__law_chain_b [x0, x1] = (f__law_chain_b [.d x0, .d x1, .un, .un, .un, .un, .un, .un, .un, .un]).bind semR := rfl
def b__law_behind_0 : SF :=
  (sSeq (sSto [4] 3 (eVar 7) (eVar 4))
  (sSeq (sIf [] (tAn (tVal (eBin opLt (eVar 6) (eVar 2))) (tVal (eBin opGt (eVar 4) (eC (.int 0)))))
   (sSeq (sSto [] 3 (eVar 7) (eBin opSub (eVar 4) (eC (.int 1)))) sNil)
   sNil)
  (sSeq (sIf [] (tAn (tVal (eBin opGe (eVar 6) (eBin opSub (eBi bLen (aCons (eVar 5) aNil)) (eVar 2)))) (tVal (eBin opLt (eVar 4) (eBin opSub (eBi bLen (aCons (eVar 1) aNil)) (eC (.int 1))))))
   (sSeq (sSto [] 3 (eVar 7) (eBin opAdd (eVar 4) (eC (.int 1)))) sNil)
   sNil) sNil)))
def b__law_behind_1 : SF :=
  (sSeq (sFor [5] (iEn (eVar 5)) (gTp [(gNm 6), (gNm 7)]) b__law_behind_0) sNil)
def q__law_behind_2 : EF := eLc [7] (iEx (eVar 3)) (gNm 7) (tVal (eBin (opEq false) (eBin opIx (eVar 3) (eVar 7)) (eVar 4))) (eVar 7)
def q__law_behind_3 : EF := eLc [4] (iR1 (eBi bLen (aCons (eVar 1) aNil))) (gNm 4) tTrue (eBi bTuple (aCons (eBi bSorted2 (aCons q__law_behind_2 aNil)) aNil))
def f__law_behind : SF :=
  (sSeq (sDic 3)
  (sSeq (sFor [1] (iEn (eVar 1)) (gTp [(gNm 4), (gNm 5)]) b__law_behind_1)
  (sSeq (sRet [7, 3] (eBi bTuple (aCons q__law_behind_3 aNil))) sNil)))
def s__law_behind : List D → M D := semF 8 f__law_behind
theorem e__law_behind (x0 x1 x2 : PyData) : s__law_behind [x0, x1, x2] = (f__law_behind [.d x0, .d x1, .d x2, .un, .un, .un, .un, .un]).bind semR := rfl
def b_ways_of_0 : SF :=
  (sSeq (sAsg [] 2 (eBin opDiv (eBin opMul (eVar 2) (eBin opSub (eVar 0) (eVar 3))) (eBin opAdd (eVar 3) (eC (.int 1))))) sNil)
def f_ways_of : SF :=
  (sSeq (sAsg [] 2 (eC (.int 1)))
  (sSeq (sFor [] (iR1 (eVar 1)) (gNm 3) b_ways_of_0)
  (sSeq (sRet [2] (eVar 2)) sNil)))
def s_ways_of : List D → M D := semF 4 f_ways_of
theorem e_ways_of (x0 x1 : PyData) : s_ways_of [x0, x1] = (f_ways_of [.d x0, .d x1, .un, .un]).bind semR := rfl
def f_near : SF :=
  (sSeq (sRet [] (eCall s_all_sides (aCons (eFz (eSl (eVar 0) (oSome (eBi bMax (aCons (eC (.int 0)) (aCons (eBin opSub (eVar 1) (eC (.int 1))) aNil)))) (oSome (eBin opAdd (eVar 1) (eC (.int 2)))))) aNil))) sNil)
def s_near : List D → M D := semF 2 f_near
theorem e_near (x0 x1 : PyData) : s_near [x0, x1] = (f_near [.d x0, .d x1]).bind semR := rfl
def q_can_come_0 : EF := eLc [7] (iEx (eBin opIx (eVar 0) (eVar 3))) (gNm 7) (tVal (eBin (opIn false) (eVar 7) (eBin opIx (eVar 1) (eBin opAdd (eVar 3) (eC (.int 1)))))) (eVar 7)
def q_can_come_1 : EF := eLc [7] (iEx (eBin opIx (eVar 0) (eBin opAdd (eVar 3) (eC (.int 1))))) (gNm 7) (tVal (eBin (opIn false) (eVar 7) (eBin opIx (eVar 1) (eVar 3)))) (eVar 7)
def b_can_come_2 : SF :=
  (sSeq (sAsg [7] 4 q_can_come_0)
  (sSeq (sAsg [7] 5 q_can_come_1)
  (sSeq (sIf [] (tOr (tVal (eBin (opEq true) (eBi bLen (aCons (eVar 4) aNil)) (eVar 2))) (tVal (eBin (opEq true) (eBi bLen (aCons (eVar 5) aNil)) (eVar 2))))
   (sSeq (sRet [] (eC (.bool false))) sNil)
   sNil) sNil)))
def q_can_come_3 : EF := eLc [7] (iEx (eVar 6)) (gNm 7) tTrue (eBin (opIn false) (eVar 7) (eCall s_near (aCons (eFz (eVar 1)) (aCons (eFz (eVar 3)) aNil))))
def b_can_come_4 : SF :=
  (sSeq (sIf [1, 3, 6] (tNt (tVal (eBi bAll (aCons q_can_come_3 aNil))))
   (sSeq (sRet [] (eC (.bool false))) sNil)
   sNil) sNil)
def f_can_come : SF :=
  (sSeq (sFor [] (iR1 (eBin opSub (eBi bLen (aCons (eVar 0) aNil)) (eC (.int 1)))) (gNm 3) b_can_come_2)
  (sSeq (sFor [0] (iEn (eVar 0)) (gTp [(gNm 3), (gNm 6)]) b_can_come_4)
  (sSeq (sRet [] (eC (.bool true))) sNil)))
def s_can_come : List D → M D := semF 8 f_can_come
theorem e_can_come (x0 x1 x2 : PyData) : s_can_come [x0, x1, x2] = (f_can_come [.d x0, .d x1, .d x2, .un, .un, .un, .un, .un]).bind semR := rfl
def b__law_sides_0 : SF :=
  (sSeq (sAsg [] 1 (eBin opAdd (eVar 1) (eBi bList (aCons (eVar 2) aNil)))) sNil)
def f__law_sides : SF :=
  (sSeq (sAsg [] 1 (eLst aNil))
  (sSeq (sFor [0] (iEx (eVar 0)) (gNm 2) b__law_sides_0)
  (sSeq (sRet [] (eBi bSorted2 (aCons (eVar 1) aNil))) sNil)))
def s__law_sides : List D → M D := semF 3 f__law_sides
theorem e__law_sides (x0 : PyData) : s__law_sides [x0] = (f__law_sides [.d x0, .un, .un]).bind semR := rfl
def b__law_sides_b_0 : SF :=
  (sSeq (sAsg [] 1 (eBin opAdd (eVar 1) (eBi bList (aCons (eVar 2) aNil)))) sNil)
def f__law_sides_b : SF :=
  (sSeq (sAsg [] 1 (eLst aNil))
  (sSeq (sFor [0] (iEx (eVar 0)) (gNm 2) b__law_sides_b_0)
  (sSeq (sRet [] (eBi bSorted2 (aCons (eVar 1) aNil))) sNil)))
def s__law_sides_b : List D → M D := semF 3 f__law_sides_b
theorem e__law_sides_b (x0 : PyData) : s__law_sides_b [x0] = (f__law_sides_b [.d x0, .un, .un]).bind semR := rfl
def q_number_in_0 : EF := eLc [1] (iEx (eVar 0)) (gNm 1) tTrue (eBin (opIn false) (eVar 1) (eC (.str "0123456789")))
def f_number_in : SF :=
  (sSeq (sExp [0] (eCall s_need (aCons (eFz (eAn (eChain opLe opLe (eC (.int 1)) (eBi bLen (aCons (eVar 0) aNil)) (eC (.int 2))) (eBi bAll (aCons q_number_in_0 aNil)))) aNil)))
  (sSeq (sRet [] (eBi bInt (aCons (eVar 0) aNil))) sNil))
def s_number_in : List D → M D := semF 2 f_number_in
theorem e_number_in (x0 : PyData) : s_number_in [x0] = (f_number_in [.d x0, .un]).bind semR := rfl
def q_sure_0 : EF := eLc [2] (iR1 (eBi bLen (aCons (eBin opIx (eVar 0) (eC (.int 0))) aNil))) (gNm 2) (tVal (eBin opLe (eCall s_worst_of (aCons (eFz (eVar 0)) (aCons (eFz (eVar 2)) aNil))) (eVar 1))) (eVar 2)
def f_sure : SF :=
  (sSeq (sExp [0] (eCall s_need_league (aCons (eFz (eVar 0)) aNil)))
  (sSeq (sExp [0, 1] (eCall s_need_place (aCons (eFz (eVar 0)) (aCons (eFz (eVar 1)) aNil))))
  (sSeq (sRet [2, 0, 2] q_sure_0) sNil)))
def s_sure : List D → M D := semF 3 f_sure
theorem e_sure (x0 x1 : PyData) : s_sure [x0, x1] = (f_sure [.d x0, .d x1, .un]).bind semR := rfl
def f_behind_first : SF :=
  (sSeq (sRet [1] (eTup (aCons (eFz (eCall s_ended_of (aCons (eFz (eTup (aCons (eFz (eBin opIx (eVar 0) (eC (.int 0)))) (aCons (eFz (eSl (eBin opIx (eVar 0) (eC (.int 1))) oNone (oSome (eC (.int 1))))) aNil)))) (aCons (eFz (eTup (aCons (eFz (eVar 1)) aNil))) aNil)))) (aCons (eFz (eSl (eBin opIx (eVar 0) (eC (.int 1))) (oSome (eC (.int 1))) oNone)) aNil)))) sNil)
def s_behind_first : List D → M D := semF 2 f_behind_first
theorem e_behind_first (x0 x1 : PyData) : s_behind_first [x0, x1] = (f_behind_first [.d x0, .d x1]).bind semR := rfl
def q_against_0 : EF := eLc [5] (iR1 (eBin opAdd (eBin opIx (eBin opIx (eBin opIx (eVar 0) (eC (.int 1))) (eC (.int 0))) (eC (.int 2))) (eC (.int 1)))) (gNm 5) (tVal (eBin opGt (eCall s_worst_of (aCons (eFz (eCall s_behind_first (aCons (eFz (eVar 0)) (aCons (eFz (eVar 5)) aNil)))) (aCons (eFz (eVar 1)) aNil))) (eVar 2))) (eVar 5)
def b_against_1 : SF :=
  (sSeq (sAsg [5, 0, 5, 1] 4 (eBin opIx q_against_0 (eC (.int 0))))
  (sSeq (sAsg [0, 4] 0 (eCall s_behind_first (aCons (eFz (eVar 0)) (aCons (eFz (eVar 4)) aNil))))
  (sSeq (sAsg [4] 3 (eBin opAdd (eVar 3) (eTup (aCons (eFz (eVar 4)) aNil)))) sNil)))
def f_against : SF :=
  (sSeq (sExp [0] (eCall s_need_league (aCons (eFz (eVar 0)) aNil)))
  (sSeq (sExp [0, 1] (eCall s_need_side (aCons (eFz (eVar 0)) (aCons (eFz (eVar 1)) aNil))))
  (sSeq (sExp [0, 2] (eCall s_need_place (aCons (eFz (eVar 0)) (aCons (eFz (eVar 2)) aNil))))
  (sSeq (sIf [0, 1] (tVal (eBin opLe (eCall s_worst_of (aCons (eFz (eVar 0)) (aCons (eFz (eVar 1)) aNil))) (eVar 2)))
   (sSeq (sRet [] (eC .none)) sNil)
   sNil)
  (sSeq (sAsg [] 3 (eTup aNil))
  (sSeq (sWh 200 [] (tVal (eBin (opEq true) (eBin opIx (eVar 0) (eC (.int 1))) (eTup aNil))) b_against_1)
  (sSeq (sRet [3] (eVar 3)) sNil)))))))
def s_against : List D → M D := semF 6 f_against
theorem e_against (x0 x1 x2 : PyData) : s_against [x0, x1, x2] = (f_against [.d x0, .d x1, .d x2, .un, .un, .un]).bind semR := rfl
def q__law_all_places_0 : EF := eLc [4] (iR1 (eBi bLen (aCons (eVar 3) aNil))) (gNm 4) tTrue (eCall s__law_place (aCons (eFz (eVar 3)) (aCons (eFz (eVar 4)) aNil)))
def b__law_all_places_1 : SF :=
  (sSeq (sAsg [0, 2] 3 (eCall s__law_ended (aCons (eFz (eVar 0)) (aCons (eFz (eVar 2)) aNil))))
  (sSeq (sApp [3, 4] 1 q__law_all_places_0) sNil))
def f__law_all_places : SF :=
  (sSeq (sAsg [] 1 (eLst aNil))
  (sSeq (sFor [0] (iEx (eCall s__law_all_ways (aCons (eFz (eVar 0)) aNil))) (gNm 2) b__law_all_places_1)
  (sSeq (sRet [1] (eVar 1)) sNil)))
def s__law_all_places : List D → M D := semF 5 f__law_all_places
theorem e__law_all_places (x0 : PyData) : s__law_all_places [x0] = (f__law_all_places [.d x0, .un, .un, .un, .un]).bind semR := rfl
def b_divisor_0 : SF :=
  (sSeq (sPar ([1] ++ []) 0 1 (eVar 1) (eBin opSub (eVar 0) (eBin opMul (eBin opDiv (eVar 0) (eVar 1)) (eVar 1)))) sNil)
def f_divisor : SF :=
  (sSeq (sAsg [] 0 (eBi bAbs (aCons (eVar 0) aNil)))
  (sSeq (sWh 200 [] (tVal (eBin (opEq true) (eVar 1) (eC (.int 0)))) b_divisor_0)
  (sSeq (sRet [0] (eVar 0)) sNil)))
def s_divisor : List D → M D := semF 2 f_divisor
theorem e_divisor (x0 x1 : PyData) : s_divisor [x0, x1] = (f_divisor [.d x0, .d x1]).bind semR := rfl
def f_fraction : SF :=
  (sSeq (sAsg [0, 1] 2 (eCall s_divisor (aCons (eFz (eVar 0)) (aCons (eFz (eVar 1)) aNil))))
  (sSeq (sRet [] (eTup (aCons (eFz (eBin opDiv (eVar 0) (eVar 2))) (aCons (eFz (eBin opDiv (eVar 1) (eVar 2))) aNil)))) sNil))
def s_fraction : List D → M D := semF 3 f_fraction
theorem e_fraction (x0 x1 : PyData) : s_fraction [x0, x1] = (f_fraction [.d x0, .d x1, .un]).bind semR := rfl
def q_matches_of_0 : EF := eLc [1, 2, 3] (iEx (eBin opIx (eVar 0) (eC (.int 1)))) (gTp [(gNm 1), (gNm 2), (gNm 3)]) tTrue (eVar 3)
def f_matches_of : SF :=
  (sSeq (sRet [] (eTmp [3] (eBi bSum2 (aCons q_matches_of_0 aNil)))) sNil)
def s_matches_of : List D → M D := semF 4 f_matches_of
theorem e_matches_of (x0 : PyData) : s_matches_of [x0] = (f_matches_of [.d x0, .un, .un, .un]).bind semR := rfl
def f_need_few : SF :=
  (sSeq (sExp [0] (eCall s_need_league (aCons (eFz (eVar 0)) aNil)))
  (sSeq (sIf [0] (tVal (eBin opGt (eCall s_matches_of (aCons (eFz (eVar 0)) aNil)) (eC (.int 12))))
   (sSeq (sRaise "TooMany") sNil)
   sNil) sNil))
def s_need_few : List D → M D := semF 1 f_need_few
theorem e_need_few (x0 : PyData) : s_need_few [x0] = (f_need_few [.d x0]).bind semR := rfl
def b_whole_of_0 : SF :=
  (sSeq (sAsg [] 1 (eBin opMul (eVar 1) (eC (.int 2)))) sNil)
def f_whole_of : SF :=
  (sSeq (sAsg [] 1 (eC (.int 1)))
  (sSeq (sFor [0] (iR1 (eCall s_matches_of (aCons (eFz (eVar 0)) aNil))) (gNm 2) b_whole_of_0)
  (sSeq (sRet [1] (eVar 1)) sNil)))
def s_whole_of : List D → M D := semF 3 f_whole_of
theorem e_whole_of (x0 : PyData) : s_whole_of [x0] = (f_whole_of [.d x0, .un, .un]).bind semR := rfl
def b__law_ways_0 : SF :=
  (sSeq (sAsg [] 2 (eBin opDiv (eBin opMul (eVar 2) (eBin opSub (eVar 0) (eVar 3))) (eBin opAdd (eVar 3) (eC (.int 1))))) sNil)
def f__law_ways : SF :=
  (sSeq (sAsg [] 2 (eC (.int 1)))
  (sSeq (sFor [] (iR1 (eVar 1)) (gNm 3) b__law_ways_0)
  (sSeq (sRet [2] (eVar 2)) sNil)))
def s__law_ways : List D → M D := semF 4 f__law_ways
theorem e__law_ways (x0 x1 : PyData) : s__law_ways [x0, x1] = (f__law_ways [.d x0, .d x1, .un, .un]).bind semR := rfl
def b__law_whole_0 : SF :=
  (sSeq (sAsg [] 1 (eBin opMul (eVar 1) (eC (.int 2)))) sNil)
def b__law_whole_1 : SF :=
  (sSeq (sFor [] (iR1 (eBin opIx (eVar 2) (eC (.int 2)))) (gNm 3) b__law_whole_0) sNil)
def f__law_whole : SF :=
  (sSeq (sAsg [] 1 (eC (.int 1)))
  (sSeq (sFor [] (iEx (eBin opIx (eVar 0) (eC (.int 1)))) (gNm 2) b__law_whole_1)
  (sSeq (sRet [1] (eVar 1)) sNil)))
def s__law_whole : List D → M D := semF 4 f__law_whole
theorem e__law_whole (x0 : PyData) : s__law_whole [x0] = (f__law_whole [.d x0, .un, .un, .un]).bind semR := rfl
def q__law_is_part_0 : EF := eLc [4] (iEx (eVar 0)) (gNm 4) tTrue (eAn (eUn (opIsi "int") (eVar 4)) (eNt (eUn (opIsi "bool") (eVar 4))))
def q__law_is_part_1 : EF := eLc [5] (iEx (eVar 3)) (gNm 5) tTrue (eAn (eBin (opEq false) (eBin opMod (eBin opIx (eVar 0) (eC (.int 0))) (eVar 5)) (eC (.int 0))) (eBin (opEq false) (eBin opMod (eBin opIx (eVar 0) (eC (.int 1))) (eVar 5)) (eC (.int 0))))
def f__law_is_part : SF :=
  (sSeq (sIf [] (tOr (tNt (tVal (eUn (opIsi "tuple") (eVar 0)))) (tVal (eBin (opEq true) (eBi bLen (aCons (eVar 0) aNil)) (eC (.int 2)))))
   (sSeq (sRet [] (eC (.bool false))) sNil)
   sNil)
  (sSeq (sIf [0] (tNt (tVal (eBi bAll (aCons q__law_is_part_0 aNil))))
   (sSeq (sRet [] (eC (.bool false))) sNil)
   sNil)
  (sSeq (sIf [] (tOr (tVal (eBin opLt (eBin opIx (eVar 0) (eC (.int 1))) (eC (.int 1)))) (tVal (eBin (opEq true) (eBin opMul (eBin opIx (eVar 0) (eC (.int 0))) (eVar 2)) (eBin opMul (eVar 1) (eBin opIx (eVar 0) (eC (.int 1)))))))
   (sSeq (sRet [] (eC (.bool false))) sNil)
   sNil)
  (sSeq (sAsg [] 3 (eLst (aCons (eFz (eC (.int 2))) (aCons (eFz (eC (.int 3))) (aCons (eFz (eC (.int 5))) (aCons (eFz (eC (.int 7))) (aCons (eFz (eC (.int 11))) (aCons (eFz (eC (.int 13))) (aCons (eFz (eBin opAdd (eBin opIx (eVar 0) (eC (.int 1))) (eBi bInt (aCons (eBin (opEq false) (eBin opIx (eVar 0) (eC (.int 1))) (eC (.int 1))) aNil)))) aNil)))))))))
  (sSeq (sRet [3] (eNt (eBi bAny (aCons q__law_is_part_1 aNil)))) sNil)))))
def s__law_is_part : List D → M D := semF 6 f__law_is_part
theorem e__law_is_part (x0 x1 x2 : PyData) : s__law_is_part [x0, x1, x2] = (f__law_is_part [.d x0, .d x1, .d x2, .un, .un, .un]).bind semR := rfl
def b__wall_0 : SF :=
  (sSeq sNil sNil)
def f__wall : SF :=
  (sSeq (sWh 200 [] (tVal (eC (.bool true))) b__wall_0) sNil)
def s__wall : List D → M D := semF 1 f__wall
theorem e__wall (x0 : PyData) : s__wall [x0] = (f__wall [.d x0]).bind semR := rfl
def b_moves_of_0 : SF :=
  (sSeq (sSto [4] 2 (eVar 6) (eVar 4)) sNil)
def b_moves_of_1 : SF :=
  (sSeq (sFor [5] (iEx (eVar 5)) (gNm 6) b_moves_of_0) sNil)
def q_moves_of_2 : EF := eLc [6] (iEx (eVar 5)) (gNm 6) (tVal (eBin (opEq true) (eVar 4) (eBin opIx (eVar 2) (eVar 6)))) (eTup (aCons (eFz (eVar 6)) (aCons (eFz (eIf (tVal (eBin opLt (eVar 4) (eBin opIx (eVar 2) (eVar 6)))) (eC (.str "up")) (eC (.str "down")))) aNil)))
def b_moves_of_3 : SF :=
  (sSeq (sExt [6, 5] 3 q_moves_of_2) sNil)
def f_moves_of : SF :=
  (sSeq (sDic 2)
  (sSeq (sFor [0] (iEn (eVar 0)) (gTp [(gNm 4), (gNm 5)]) b_moves_of_1)
  (sSeq (sAsg [] 3 (eLst aNil))
  (sSeq (sFor [1] (iEn (eVar 1)) (gTp [(gNm 4), (gNm 5)]) b_moves_of_3)
  (sSeq (sRet [] (eBi bSorted2 (aCons (eVar 3) aNil))) sNil)))))
def s_moves_of : List D → M D := semF 7 f_moves_of
theorem e_moves_of (x0 x1 : PyData) : s_moves_of [x0, x1] = (f_moves_of [.d x0, .d x1, .un, .un, .un, .un, .un]).bind semR := rfl
def q__law_tier_0 : EF := eLc [2, 3] (iEn (eVar 0)) (gTp [(gNm 2), (gNm 3)]) (tVal (eBin (opIn false) (eVar 1) (eVar 3))) (eVar 2)
def f__law_tier : SF :=
  (sSeq (sRet [2, 0] (eBin opIx q__law_tier_0 (eC (.int 0)))) sNil)
def s__law_tier : List D → M D := semF 4 f__law_tier
theorem e__law_tier (x0 x1 : PyData) : s__law_tier [x0, x1] = (f__law_tier [.d x0, .d x1, .un, .un]).bind semR := rfl
def q_orders_to_0 : EF := eLc [8] (iEx (eVar 4)) (gNm 8) (tAn (tVal (eBin opGt (eVar 3) (eC (.int 0)))) (tVal (eBin (opIn false) (eVar 8) (eBin opIx (eVar 1) (eBin opSub (eVar 3) (eC (.int 1))))))) (eVar 8)
def q_orders_to_1 : EF := eLc [8] (iEx (eVar 4)) (gNm 8) (tAn (tVal (eBin opLt (eBin opAdd (eVar 3) (eC (.int 1))) (eBi bLen (aCons (eVar 0) aNil)))) (tVal (eBin (opIn false) (eVar 8) (eBin opIx (eVar 1) (eBin opAdd (eVar 3) (eC (.int 1))))))) (eVar 8)
def q_orders_to_2 : EF := eLc [8] (iEx (eVar 4)) (gNm 8) (tVal (eBin (opIn false) (eVar 8) (eBin opIx (eVar 1) (eVar 3)))) (eVar 8)
def b_orders_to_3 : SF :=
  (sSeq (sAsg [8, 4] 5 q_orders_to_0)
  (sSeq (sAsg [8, 4] 6 q_orders_to_1)
  (sSeq (sAsg [8, 4] 7 q_orders_to_2)
  (sSeq (sApp [] 2 (eBi bTuple (aCons (eBin opAdd (eBin opAdd (eVar 5) (eVar 7)) (eVar 6)) aNil))) sNil))))
def f_orders_to : SF :=
  (sSeq (sAsg [] 2 (eLst aNil))
  (sSeq (sFor [0] (iEn (eVar 0)) (gTp [(gNm 3), (gNm 4)]) b_orders_to_3)
  (sSeq (sRet [] (eBi bTuple (aCons (eVar 2) aNil))) sNil)))
def s_orders_to : List D → M D := semF 9 f_orders_to
theorem e_orders_to (x0 x1 : PyData) : s_orders_to [x0, x1] = (f_orders_to [.d x0, .d x1, .un, .un, .un, .un, .un, .un, .un]).bind semR := rfl
end PG
namespace LG
open PySem PySem.Spec PyProof.Rows L2 PD PG
abbrev Row := T3 Nat Nat Int
abbrev lg (W : List Int) (R : List Row) : PyData := .tuple [.tuple (W.map .int), .tuple (R.map Dt.D)]
structure Ok (W : List Int) (R : List Row) : Prop where
  n2 : 2 ≤ W.length
  n6 : W.length ≤ 6
  w : ∀ x ∈ W, 0 ≤ x ∧ x ≤ 60
  r : ∀ x ∈ R, x.a < x.b ∧ x.b < W.length ∧ 1 ≤ x.c ∧ x.c ≤ 9
  s : R.Pairwise fun x y => x.a < y.a ∨ (x.a = y.a ∧ x.b < y.b)
  l : R.length ≤ 100
theorem e1 (i lo hi : Int) : s_is_count [.int i, .int lo, .int hi] = .ok (.bool (decide (lo ≤ i) && decide (i ≤ hi))) := by
  rw [e_is_count, f_is_count]
  simp only [ap_sSeq, ap_sNil, ap_sRet, ap_sRetN, ap_sCt, ap_sBk, ap_sRaise, ap_sExp, ap_sAsg, putL_d, putL_fr, ap_sIf, ap_sFor, ap_sUnp, un1_ok, ap_sPar, par2_nx, ap_sApp, ap_sExt, ext2_fr, ext2_d, ap_onOwn, on1_own, ap_sSto, sto2_int, sto3_some, fz1_d, fz1_un, fz1_own, ap_fzE_nil, ap_fzE, sq_nx, sq_rt, sq_bk, sq_ct, sq_ex, sq_stuck, okb, exb, stb, ap_eC, vr_d, vr_own, ap_eVar, ap_eBin, ap_eUn, ap_aNil, ap_aCons, ap_eFz, fzL_d, fzL_fr, fz_d, fz_fr, rd_d, rd_fr, rd_own, allD_nil, allD_cons, ap_eTup, ap_eLst, ap_eCall, ap_eBi, boolL_d, ap_tVal, ap_tAn, ap_tOr, ap_tNt, ap_tTrue, ap_eIf, ap_eAn, ap_eOr, ap_eNt, ap_eChain, ap_okB, ap_okI, add_i, sub_i, mul_i, lt_i, le_i, gt_i, ge_i, bLen_t, bLen_l, bLen_f, bLen_o, bLen_s, bInt_i, bInt_b, bList_t, bList_l, bList_f, bList_o, bTuple_t, bTuple_l, bTuple_f, bTuple_o, bMax_2, bMin_2, ix1_some, ix_t, ix_l, ix_f, ix_o, ix_s, at_0, at_1, at_2, ap_oNone, o1_i, ap_oSome, ap_eSl, sl_t, sl_l, sl_f, sl_o, itL_t, itL_l, ap_iEx, ap_iEn, ap_iZp, zipL_t, zipL_l, zipL_lt, ap_iR1, ap_iR2, int1_i, ap_gNm, ap_gTp, ap_gAll_nil, ap_gAll, semR_nx, semR_rt, List.getElem?_cons_zero, List.getElem?_cons_succ, List.set_cons_zero, List.set_cons_succ, List.length_cons, List.length_nil, if_true, if_false, Bool.not_true, Bool.not_false, Bool.false_eq_true, List.append_nil, List.nil_append, List.cons_append, reduceIte, isi_ii, isi_ib, isi_bi, isi_bb, isi_tt, isi_tl, isi_ll, isi_lt, isi_ss, and_d, or_d, and_b, or_b, Bool.or_false, Bool.false_or, Bool.or_true, Bool.true_or, Bool.and_true, Bool.true_and, Bool.and_false, Bool.false_and, wipe_nil, wipe_cons, D_nat, D_int, Nat.reduceAdd, Nat.reduceLeDiff, lm_ok, add_t, add_of, add_ff, add_df, add_dd, add_od, add_fd, Int.cast_ofNat_Int, Int.natCast_zero, Int.natCast_one, Nat.zero_add, Nat.zero_le, stoG_own, stoG_dc, stoK_int, ap_sDic, fz1_dc, ixD1_some, ix_dic, ix_dc, ap_eTmp, scal_i]
theorem e1t {i lo hi : Int} (h1 : lo ≤ i) (h2 : i ≤ hi) : s_is_count [.int i, .int lo, .int hi] = .ok (.bool true) := by
  rw [e1, decide_eq_true h1, decide_eq_true h2]
  rfl
theorem cut2 (x : Row) : cutD [.int (x.a : Int), .int (x.b : Int), .int x.c] none (some 2) = [.int (x.a : Int), .int (x.b : Int)] := cut_to _ 2
theorem Dr (x : Row) : Dt.D x = .tuple [.int (x.a : Int), .int (x.b : Int), .int x.c] := rfl
theorem e2 {x : Row} {n : Nat} (h1 : x.a < x.b) (h2 : x.b < n) (h3 : 1 ≤ x.c) (h4 : x.c ≤ 9) : s_is_left [Dt.D x, .int (n : Int)] = .ok (.bool true) := by
  have k3 : opEq true (.d (.int 3)) (.d (.int 3)) = .ok (.d (.bool false)) := ne_D (α := Int) (a := 3) (b := 3) (by decide) rfl rfl
  have k5 (l : L) : q_is_left_0 [L.d (.tuple [.int (x.a : Int), .int (x.b : Int), .int x.c]), L.d (.int (n : Int)), l] = .ok (.fr ([true, true].map .bool)) := by
    refine eLc_map (α := Nat) (xs := [x.a, x.b]) (fun x => .int (x : Int)) (fun _ => .bool true) (by simp only [ap_sSeq, ap_sNil, ap_sRet, ap_sRetN, ap_sCt, ap_sBk, ap_sRaise, ap_sExp, ap_sAsg, putL_d, putL_fr, ap_sIf, ap_sFor, ap_sUnp, un1_ok, ap_sPar, par2_nx, ap_sApp, ap_sExt, ext2_fr, ext2_d, ap_onOwn, on1_own, ap_sSto, sto2_int, sto3_some, fz1_d, fz1_un, fz1_own, ap_fzE_nil, ap_fzE, sq_nx, sq_rt, sq_bk, sq_ct, sq_ex, sq_stuck, okb, exb, stb, ap_eC, vr_d, vr_own, ap_eVar, ap_eBin, ap_eUn, ap_aNil, ap_aCons, ap_eFz, fzL_d, fzL_fr, fz_d, fz_fr, rd_d, rd_fr, rd_own, allD_nil, allD_cons, ap_eTup, ap_eLst, ap_eCall, ap_eBi, boolL_d, ap_tVal, ap_tAn, ap_tOr, ap_tNt, ap_tTrue, ap_eIf, ap_eAn, ap_eOr, ap_eNt, ap_eChain, ap_okB, ap_okI, add_i, sub_i, mul_i, lt_i, le_i, gt_i, ge_i, bLen_t, bLen_l, bLen_f, bLen_o, bLen_s, bInt_i, bInt_b, bList_t, bList_l, bList_f, bList_o, bTuple_t, bTuple_l, bTuple_f, bTuple_o, bMax_2, bMin_2, ix1_some, ix_t, ix_l, ix_f, ix_o, ix_s, at_0, at_1, at_2, ap_oNone, o1_i, ap_oSome, ap_eSl, sl_t, sl_l, sl_f, sl_o, itL_t, itL_l, ap_iEx, ap_iEn, ap_iZp, zipL_t, zipL_l, zipL_lt, ap_iR1, ap_iR2, int1_i, ap_gNm, ap_gTp, ap_gAll_nil, ap_gAll, semR_nx, semR_rt, List.getElem?_cons_zero, List.getElem?_cons_succ, List.set_cons_zero, List.set_cons_succ, List.length_cons, List.length_nil, if_true, if_false, Bool.not_true, Bool.not_false, Bool.false_eq_true, List.append_nil, List.nil_append, List.cons_append, reduceIte, isi_ii, isi_ib, isi_bi, isi_bb, isi_tt, isi_tl, isi_ll, isi_lt, isi_ss, and_d, or_d, and_b, or_b, Bool.or_false, Bool.false_or, Bool.or_true, Bool.true_or, Bool.and_true, Bool.true_and, Bool.and_false, Bool.false_and, wipe_nil, wipe_cons, D_nat, D_int, Nat.reduceAdd, Nat.reduceLeDiff, lm_ok, add_t, add_of, add_ff, add_df, add_dd, add_od, add_fd, Int.cast_ofNat_Int, Int.natCast_zero, Int.natCast_one, Nat.zero_add, Nat.zero_le, stoG_own, stoG_dc, stoK_int, ap_sDic, fz1_dc, ixD1_some, ix_dic, ix_dc, ap_eTmp, scal_i, cut2]; rfl) rfl (by simp [cap]) fun y hx => ⟨_, rfl, ?_⟩
    have hx' : y = x.a ∨ y = x.b := by simpa using hx
    simp only [ap_sSeq, ap_sNil, ap_sRet, ap_sRetN, ap_sCt, ap_sBk, ap_sRaise, ap_sExp, ap_sAsg, putL_d, putL_fr, ap_sIf, ap_sFor, ap_sUnp, un1_ok, ap_sPar, par2_nx, ap_sApp, ap_sExt, ext2_fr, ext2_d, ap_onOwn, on1_own, ap_sSto, sto2_int, sto3_some, fz1_d, fz1_un, fz1_own, ap_fzE_nil, ap_fzE, sq_nx, sq_rt, sq_bk, sq_ct, sq_ex, sq_stuck, okb, exb, stb, ap_eC, vr_d, vr_own, ap_eVar, ap_eBin, ap_eUn, ap_aNil, ap_aCons, ap_eFz, fzL_d, fzL_fr, fz_d, fz_fr, rd_d, rd_fr, rd_own, allD_nil, allD_cons, ap_eTup, ap_eLst, ap_eCall, ap_eBi, boolL_d, ap_tVal, ap_tAn, ap_tOr, ap_tNt, ap_tTrue, ap_eIf, ap_eAn, ap_eOr, ap_eNt, ap_eChain, ap_okB, ap_okI, add_i, sub_i, mul_i, lt_i, le_i, gt_i, ge_i, bLen_t, bLen_l, bLen_f, bLen_o, bLen_s, bInt_i, bInt_b, bList_t, bList_l, bList_f, bList_o, bTuple_t, bTuple_l, bTuple_f, bTuple_o, bMax_2, bMin_2, ix1_some, ix_t, ix_l, ix_f, ix_o, ix_s, at_0, at_1, at_2, ap_oNone, o1_i, ap_oSome, ap_eSl, sl_t, sl_l, sl_f, sl_o, itL_t, itL_l, ap_iEx, ap_iEn, ap_iZp, zipL_t, zipL_l, zipL_lt, ap_iR1, ap_iR2, int1_i, ap_gNm, ap_gTp, ap_gAll_nil, ap_gAll, semR_nx, semR_rt, List.getElem?_cons_zero, List.getElem?_cons_succ, List.set_cons_zero, List.set_cons_succ, List.length_cons, List.length_nil, if_true, if_false, Bool.not_true, Bool.not_false, Bool.false_eq_true, List.append_nil, List.nil_append, List.cons_append, reduceIte, isi_ii, isi_ib, isi_bi, isi_bb, isi_tt, isi_tl, isi_ll, isi_lt, isi_ss, and_d, or_d, and_b, or_b, Bool.or_false, Bool.false_or, Bool.or_true, Bool.true_or, Bool.and_true, Bool.true_and, Bool.and_false, Bool.false_and, wipe_nil, wipe_cons, D_nat, D_int, Nat.reduceAdd, Nat.reduceLeDiff, lm_ok, add_t, add_of, add_ff, add_df, add_dd, add_od, add_fd, Int.cast_ofNat_Int, Int.natCast_zero, Int.natCast_one, Nat.zero_add, Nat.zero_le, stoG_own, stoG_dc, stoK_int, ap_sDic, fz1_dc, ixD1_some, ix_dic, ix_dc, ap_eTmp, scal_i]
    rw [e1t (by omega) (by omega)]
    rfl
  rw [e_is_left, f_is_left, Dr]
  simp only [ap_sSeq, ap_sNil, ap_sRet, ap_sRetN, ap_sCt, ap_sBk, ap_sRaise, ap_sExp, ap_sAsg, putL_d, putL_fr, ap_sIf, ap_sFor, ap_sUnp, un1_ok, ap_sPar, par2_nx, ap_sApp, ap_sExt, ext2_fr, ext2_d, ap_onOwn, on1_own, ap_sSto, sto2_int, sto3_some, fz1_d, fz1_un, fz1_own, ap_fzE_nil, ap_fzE, sq_nx, sq_rt, sq_bk, sq_ct, sq_ex, sq_stuck, okb, exb, stb, ap_eC, vr_d, vr_own, ap_eVar, ap_eBin, ap_eUn, ap_aNil, ap_aCons, ap_eFz, fzL_d, fzL_fr, fz_d, fz_fr, rd_d, rd_fr, rd_own, allD_nil, allD_cons, ap_eTup, ap_eLst, ap_eCall, ap_eBi, boolL_d, ap_tVal, ap_tAn, ap_tOr, ap_tNt, ap_tTrue, ap_eIf, ap_eAn, ap_eOr, ap_eNt, ap_eChain, ap_okB, ap_okI, add_i, sub_i, mul_i, lt_i, le_i, gt_i, ge_i, bLen_t, bLen_l, bLen_f, bLen_o, bLen_s, bInt_i, bInt_b, bList_t, bList_l, bList_f, bList_o, bTuple_t, bTuple_l, bTuple_f, bTuple_o, bMax_2, bMin_2, ix1_some, ix_t, ix_l, ix_f, ix_o, ix_s, at_0, at_1, at_2, ap_oNone, o1_i, ap_oSome, ap_eSl, sl_t, sl_l, sl_f, sl_o, itL_t, itL_l, ap_iEx, ap_iEn, ap_iZp, zipL_t, zipL_l, zipL_lt, ap_iR1, ap_iR2, int1_i, ap_gNm, ap_gTp, ap_gAll_nil, ap_gAll, semR_nx, semR_rt, List.getElem?_cons_zero, List.getElem?_cons_succ, List.set_cons_zero, List.set_cons_succ, List.length_cons, List.length_nil, if_true, if_false, Bool.not_true, Bool.not_false, Bool.false_eq_true, List.append_nil, List.nil_append, List.cons_append, reduceIte, isi_ii, isi_ib, isi_bi, isi_bb, isi_tt, isi_tl, isi_ll, isi_lt, isi_ss, and_d, or_d, and_b, or_b, Bool.or_false, Bool.false_or, Bool.or_true, Bool.true_or, Bool.and_true, Bool.true_and, Bool.and_false, Bool.false_and, wipe_nil, wipe_cons, D_nat, D_int, Nat.reduceAdd, Nat.reduceLeDiff, lm_ok, add_t, add_of, add_ff, add_df, add_dd, add_od, add_fd, Int.cast_ofNat_Int, Int.natCast_zero, Int.natCast_one, Nat.zero_add, Nat.zero_le, stoG_own, stoG_dc, stoK_int, ap_sDic, fz1_dc, ixD1_some, ix_dic, ix_dc, ap_eTmp, scal_i, e1t h3 h4, k3, k5, bAll_f]
  rw [decide_eq_true (show ((x.a : Int) < (x.b : Int)) by omega)]
  rfl
section
variable {W : List Int} {R : List Row}
theorem e3 (h : Ok W R) : s_is_league [lg W R] = .ok (.bool true) := by
  have k0 (l1 l2 l3 l4 : L) : q_is_league_0 [L.d (lg W R), l1, l2, l3, l4] = .ok (.fr ([PyData.tuple (W.map .int), PyData.tuple (R.map Dt.D)].map fun _ => PyData.bool true)) := by
    refine eLc_map (α := PyData) (xs := [.tuple (W.map .int), .tuple (R.map Dt.D)]) (fun x => x) (fun _ => .bool true) rfl rfl (by simp [cap]) fun y hx => ⟨_, rfl, ?_⟩
    have hx' : y = .tuple (W.map .int) ∨ y = .tuple (R.map Dt.D) := by simpa using hx
    rcases hx' with e | e <;> subst e <;> rfl
  have k1 (l0 l2 l3 l4 : L) : q_is_league_1 [l0, L.d (.tuple (W.map .int)), l2, l3, l4] = .ok (.fr (W.map fun _ => .bool true)) := by
    refine eLc_map (α := Int) (xs := W) .int (fun _ => .bool true) rfl rfl (by have := h.n6; simp only [cap]; omega) fun y hx => ⟨_, rfl, ?_⟩
    obtain ⟨a, b⟩ := h.w y hx
    simp only [ap_sSeq, ap_sNil, ap_sRet, ap_sRetN, ap_sCt, ap_sBk, ap_sRaise, ap_sExp, ap_sAsg, putL_d, putL_fr, ap_sIf, ap_sFor, ap_sUnp, un1_ok, ap_sPar, par2_nx, ap_sApp, ap_sExt, ext2_fr, ext2_d, ap_onOwn, on1_own, ap_sSto, sto2_int, sto3_some, fz1_d, fz1_un, fz1_own, ap_fzE_nil, ap_fzE, sq_nx, sq_rt, sq_bk, sq_ct, sq_ex, sq_stuck, okb, exb, stb, ap_eC, vr_d, vr_own, ap_eVar, ap_eBin, ap_eUn, ap_aNil, ap_aCons, ap_eFz, fzL_d, fzL_fr, fz_d, fz_fr, rd_d, rd_fr, rd_own, allD_nil, allD_cons, ap_eTup, ap_eLst, ap_eCall, ap_eBi, boolL_d, ap_tVal, ap_tAn, ap_tOr, ap_tNt, ap_tTrue, ap_eIf, ap_eAn, ap_eOr, ap_eNt, ap_eChain, ap_okB, ap_okI, add_i, sub_i, mul_i, lt_i, le_i, gt_i, ge_i, bLen_t, bLen_l, bLen_f, bLen_o, bLen_s, bInt_i, bInt_b, bList_t, bList_l, bList_f, bList_o, bTuple_t, bTuple_l, bTuple_f, bTuple_o, bMax_2, bMin_2, ix1_some, ix_t, ix_l, ix_f, ix_o, ix_s, at_0, at_1, at_2, ap_oNone, o1_i, ap_oSome, ap_eSl, sl_t, sl_l, sl_f, sl_o, itL_t, itL_l, ap_iEx, ap_iEn, ap_iZp, zipL_t, zipL_l, zipL_lt, ap_iR1, ap_iR2, int1_i, ap_gNm, ap_gTp, ap_gAll_nil, ap_gAll, semR_nx, semR_rt, List.getElem?_cons_zero, List.getElem?_cons_succ, List.set_cons_zero, List.set_cons_succ, List.length_cons, List.length_nil, if_true, if_false, Bool.not_true, Bool.not_false, Bool.false_eq_true, List.append_nil, List.nil_append, List.cons_append, reduceIte, isi_ii, isi_ib, isi_bi, isi_bb, isi_tt, isi_tl, isi_ll, isi_lt, isi_ss, and_d, or_d, and_b, or_b, Bool.or_false, Bool.false_or, Bool.or_true, Bool.true_or, Bool.and_true, Bool.true_and, Bool.and_false, Bool.false_and, wipe_nil, wipe_cons, D_nat, D_int, Nat.reduceAdd, Nat.reduceLeDiff, lm_ok, add_t, add_of, add_ff, add_df, add_dd, add_od, add_fd, Int.cast_ofNat_Int, Int.natCast_zero, Int.natCast_one, Nat.zero_add, Nat.zero_le, stoG_own, stoG_dc, stoK_int, ap_sDic, fz1_dc, ixD1_some, ix_dic, ix_dc, ap_eTmp, scal_i, e1t a b]
  have k2 (l0 l3 l4 : L) : q_is_league_2 [l0, L.d (.tuple (W.map .int)), L.d (.tuple (R.map Dt.D)), l3, l4] = .ok (.fr (R.map fun _ => .bool true)) := by
    refine eLc_map (α := Row) (xs := R) Dt.D (fun _ => .bool true) rfl rfl (by have := h.l; simp only [cap]; omega) fun y hx => ⟨_, rfl, ?_⟩
    obtain ⟨a, b, c, d⟩ := h.r y hx
    simp only [ap_sSeq, ap_sNil, ap_sRet, ap_sRetN, ap_sCt, ap_sBk, ap_sRaise, ap_sExp, ap_sAsg, putL_d, putL_fr, ap_sIf, ap_sFor, ap_sUnp, un1_ok, ap_sPar, par2_nx, ap_sApp, ap_sExt, ext2_fr, ext2_d, ap_onOwn, on1_own, ap_sSto, sto2_int, sto3_some, fz1_d, fz1_un, fz1_own, ap_fzE_nil, ap_fzE, sq_nx, sq_rt, sq_bk, sq_ct, sq_ex, sq_stuck, okb, exb, stb, ap_eC, vr_d, vr_own, ap_eVar, ap_eBin, ap_eUn, ap_aNil, ap_aCons, ap_eFz, fzL_d, fzL_fr, fz_d, fz_fr, rd_d, rd_fr, rd_own, allD_nil, allD_cons, ap_eTup, ap_eLst, ap_eCall, ap_eBi, boolL_d, ap_tVal, ap_tAn, ap_tOr, ap_tNt, ap_tTrue, ap_eIf, ap_eAn, ap_eOr, ap_eNt, ap_eChain, ap_okB, ap_okI, add_i, sub_i, mul_i, lt_i, le_i, gt_i, ge_i, bLen_t, bLen_l, bLen_f, bLen_o, bLen_s, bInt_i, bInt_b, bList_t, bList_l, bList_f, bList_o, bTuple_t, bTuple_l, bTuple_f, bTuple_o, bMax_2, bMin_2, ix1_some, ix_t, ix_l, ix_f, ix_o, ix_s, at_0, at_1, at_2, ap_oNone, o1_i, ap_oSome, ap_eSl, sl_t, sl_l, sl_f, sl_o, itL_t, itL_l, ap_iEx, ap_iEn, ap_iZp, zipL_t, zipL_l, zipL_lt, ap_iR1, ap_iR2, int1_i, ap_gNm, ap_gTp, ap_gAll_nil, ap_gAll, semR_nx, semR_rt, List.getElem?_cons_zero, List.getElem?_cons_succ, List.set_cons_zero, List.set_cons_succ, List.length_cons, List.length_nil, if_true, if_false, Bool.not_true, Bool.not_false, Bool.false_eq_true, List.append_nil, List.nil_append, List.cons_append, reduceIte, isi_ii, isi_ib, isi_bi, isi_bb, isi_tt, isi_tl, isi_ll, isi_lt, isi_ss, and_d, or_d, and_b, or_b, Bool.or_false, Bool.false_or, Bool.or_true, Bool.true_or, Bool.and_true, Bool.true_and, Bool.and_false, Bool.false_and, wipe_nil, wipe_cons, D_nat, D_int, Nat.reduceAdd, Nat.reduceLeDiff, lm_ok, add_t, add_of, add_ff, add_df, add_dd, add_od, add_fd, Int.cast_ofNat_Int, Int.natCast_zero, Int.natCast_one, Nat.zero_add, Nat.zero_le, stoG_own, stoG_dc, stoK_int, ap_sDic, fz1_dc, ixD1_some, ix_dic, ix_dc, ap_eTmp, scal_i, List.length_map, e2 a b c d]
  have k3 (l0 l1 l3 l4 : L) : q_is_league_3 [l0, l1, L.d (.tuple (R.map Dt.D)), l3, l4] = .ok (.fr ((R.dropLast.zip (R.drop 1)).map fun _ => .bool true)) := by
    refine eLc_map (α := Row × Row) (xs := R.dropLast.zip (R.drop 1)) (fun p => .tuple [Dt.D p.1, Dt.D p.2]) (fun _ => .bool true) ?_ (zipD_map Dt.D Dt.D _ _) (by have := h.l; simp only [cap, List.length_zip]; simp; omega) fun y hx => ⟨_, rfl, ?_⟩
    · have c1 : cutD (R.map Dt.D) (some 1) none = (R.map Dt.D).drop 1 := cut_from _ 1
      simp only [ap_sSeq, ap_sNil, ap_sRet, ap_sRetN, ap_sCt, ap_sBk, ap_sRaise, ap_sExp, ap_sAsg, putL_d, putL_fr, ap_sIf, ap_sFor, ap_sUnp, un1_ok, ap_sPar, par2_nx, ap_sApp, ap_sExt, ext2_fr, ext2_d, ap_onOwn, on1_own, ap_sSto, sto2_int, sto3_some, fz1_d, fz1_un, fz1_own, ap_fzE_nil, ap_fzE, sq_nx, sq_rt, sq_bk, sq_ct, sq_ex, sq_stuck, okb, exb, stb, ap_eC, vr_d, vr_own, ap_eVar, ap_eBin, ap_eUn, ap_aNil, ap_aCons, ap_eFz, fzL_d, fzL_fr, fz_d, fz_fr, rd_d, rd_fr, rd_own, allD_nil, allD_cons, ap_eTup, ap_eLst, ap_eCall, ap_eBi, boolL_d, ap_tVal, ap_tAn, ap_tOr, ap_tNt, ap_tTrue, ap_eIf, ap_eAn, ap_eOr, ap_eNt, ap_eChain, ap_okB, ap_okI, add_i, sub_i, mul_i, lt_i, le_i, gt_i, ge_i, bLen_t, bLen_l, bLen_f, bLen_o, bLen_s, bInt_i, bInt_b, bList_t, bList_l, bList_f, bList_o, bTuple_t, bTuple_l, bTuple_f, bTuple_o, bMax_2, bMin_2, ix1_some, ix_t, ix_l, ix_f, ix_o, ix_s, at_0, at_1, at_2, ap_oNone, o1_i, ap_oSome, ap_eSl, sl_t, sl_l, sl_f, sl_o, itL_t, itL_l, ap_iEx, ap_iEn, ap_iZp, zipL_t, zipL_l, zipL_lt, ap_iR1, ap_iR2, int1_i, ap_gNm, ap_gTp, ap_gAll_nil, ap_gAll, semR_nx, semR_rt, List.getElem?_cons_zero, List.getElem?_cons_succ, List.set_cons_zero, List.set_cons_succ, List.length_cons, List.length_nil, if_true, if_false, Bool.not_true, Bool.not_false, Bool.false_eq_true, List.append_nil, List.nil_append, List.cons_append, reduceIte, isi_ii, isi_ib, isi_bi, isi_bb, isi_tt, isi_tl, isi_ll, isi_lt, isi_ss, and_d, or_d, and_b, or_b, Bool.or_false, Bool.false_or, Bool.or_true, Bool.true_or, Bool.and_true, Bool.true_and, Bool.and_false, Bool.false_and, wipe_nil, wipe_cons, D_nat, D_int, Nat.reduceAdd, Nat.reduceLeDiff, lm_ok, add_t, add_of, add_ff, add_df, add_dd, add_od, add_fd, Int.cast_ofNat_Int, Int.natCast_zero, Int.natCast_one, Nat.zero_add, Nat.zero_le, stoG_own, stoG_dc, stoK_int, ap_sDic, fz1_dc, ixD1_some, ix_dic, ix_dc, ap_eTmp, scal_i, cut_init, c1]
      rw [List.map_dropLast, List.map_drop]
    · have := adj_of h.s y hx
      simp only [ap_sSeq, ap_sNil, ap_sRet, ap_sRetN, ap_sCt, ap_sBk, ap_sRaise, ap_sExp, ap_sAsg, putL_d, putL_fr, ap_sIf, ap_sFor, ap_sUnp, un1_ok, ap_sPar, par2_nx, ap_sApp, ap_sExt, ext2_fr, ext2_d, ap_onOwn, on1_own, ap_sSto, sto2_int, sto3_some, fz1_d, fz1_un, fz1_own, ap_fzE_nil, ap_fzE, sq_nx, sq_rt, sq_bk, sq_ct, sq_ex, sq_stuck, okb, exb, stb, ap_eC, vr_d, vr_own, ap_eVar, ap_eBin, ap_eUn, ap_aNil, ap_aCons, ap_eFz, fzL_d, fzL_fr, fz_d, fz_fr, rd_d, rd_fr, rd_own, allD_nil, allD_cons, ap_eTup, ap_eLst, ap_eCall, ap_eBi, boolL_d, ap_tVal, ap_tAn, ap_tOr, ap_tNt, ap_tTrue, ap_eIf, ap_eAn, ap_eOr, ap_eNt, ap_eChain, ap_okB, ap_okI, add_i, sub_i, mul_i, lt_i, le_i, gt_i, ge_i, bLen_t, bLen_l, bLen_f, bLen_o, bLen_s, bInt_i, bInt_b, bList_t, bList_l, bList_f, bList_o, bTuple_t, bTuple_l, bTuple_f, bTuple_o, bMax_2, bMin_2, ix1_some, ix_t, ix_l, ix_f, ix_o, ix_s, at_0, at_1, at_2, ap_oNone, o1_i, ap_oSome, ap_eSl, sl_t, sl_l, sl_f, sl_o, itL_t, itL_l, ap_iEx, ap_iEn, ap_iZp, zipL_t, zipL_l, zipL_lt, ap_iR1, ap_iR2, int1_i, ap_gNm, ap_gTp, ap_gAll_nil, ap_gAll, semR_nx, semR_rt, List.getElem?_cons_zero, List.getElem?_cons_succ, List.set_cons_zero, List.set_cons_succ, List.length_cons, List.length_nil, if_true, if_false, Bool.not_true, Bool.not_false, Bool.false_eq_true, List.append_nil, List.nil_append, List.cons_append, reduceIte, isi_ii, isi_ib, isi_bi, isi_bb, isi_tt, isi_tl, isi_ll, isi_lt, isi_ss, and_d, or_d, and_b, or_b, Bool.or_false, Bool.false_or, Bool.or_true, Bool.true_or, Bool.and_true, Bool.true_and, Bool.and_false, Bool.false_and, wipe_nil, wipe_cons, D_nat, D_int, Nat.reduceAdd, Nat.reduceLeDiff, lm_ok, add_t, add_of, add_ff, add_df, add_dd, add_od, add_fd, Int.cast_ofNat_Int, Int.natCast_zero, Int.natCast_one, Nat.zero_add, Nat.zero_le, stoG_own, stoG_dc, stoK_int, ap_sDic, fz1_dc, ixD1_some, ix_dic, ix_dc, ap_eTmp, scal_i, Dr, cut2, lt_2]
      rw [decide_eq_true (by omega)]
  have z2 : opEq true (.d (.int 2)) (.d (.int 2)) = .ok (.d (.bool false)) := ne_D (α := Int) (a := 2) (b := 2) (by decide) rfl rfl
  rw [e_is_league, f_is_league]
  simp only [ap_sSeq, ap_sNil, ap_sRet, ap_sRetN, ap_sCt, ap_sBk, ap_sRaise, ap_sExp, ap_sAsg, putL_d, putL_fr, ap_sIf, ap_sFor, ap_sUnp, un1_ok, ap_sPar, par2_nx, ap_sApp, ap_sExt, ext2_fr, ext2_d, ap_onOwn, on1_own, ap_sSto, sto2_int, sto3_some, fz1_d, fz1_un, fz1_own, ap_fzE_nil, ap_fzE, sq_nx, sq_rt, sq_bk, sq_ct, sq_ex, sq_stuck, okb, exb, stb, ap_eC, vr_d, vr_own, ap_eVar, ap_eBin, ap_eUn, ap_aNil, ap_aCons, ap_eFz, fzL_d, fzL_fr, fz_d, fz_fr, rd_d, rd_fr, rd_own, allD_nil, allD_cons, ap_eTup, ap_eLst, ap_eCall, ap_eBi, boolL_d, ap_tVal, ap_tAn, ap_tOr, ap_tNt, ap_tTrue, ap_eIf, ap_eAn, ap_eOr, ap_eNt, ap_eChain, ap_okB, ap_okI, add_i, sub_i, mul_i, lt_i, le_i, gt_i, ge_i, bLen_t, bLen_l, bLen_f, bLen_o, bLen_s, bInt_i, bInt_b, bList_t, bList_l, bList_f, bList_o, bTuple_t, bTuple_l, bTuple_f, bTuple_o, bMax_2, bMin_2, ix1_some, ix_t, ix_l, ix_f, ix_o, ix_s, at_0, at_1, at_2, ap_oNone, o1_i, ap_oSome, ap_eSl, sl_t, sl_l, sl_f, sl_o, itL_t, itL_l, ap_iEx, ap_iEn, ap_iZp, zipL_t, zipL_l, zipL_lt, ap_iR1, ap_iR2, int1_i, ap_gNm, ap_gTp, ap_gAll_nil, ap_gAll, semR_nx, semR_rt, List.getElem?_cons_zero, List.getElem?_cons_succ, List.set_cons_zero, List.set_cons_succ, List.length_cons, List.length_nil, if_true, if_false, Bool.not_true, Bool.not_false, Bool.false_eq_true, List.append_nil, List.nil_append, List.cons_append, reduceIte, isi_ii, isi_ib, isi_bi, isi_bb, isi_tt, isi_tl, isi_ll, isi_lt, isi_ss, and_d, or_d, and_b, or_b, Bool.or_false, Bool.false_or, Bool.or_true, Bool.true_or, Bool.and_true, Bool.true_and, Bool.and_false, Bool.false_and, wipe_nil, wipe_cons, D_nat, D_int, Nat.reduceAdd, Nat.reduceLeDiff, lm_ok, add_t, add_of, add_ff, add_df, add_dd, add_od, add_fd, Int.cast_ofNat_Int, Int.natCast_zero, Int.natCast_one, Nat.zero_add, Nat.zero_le, stoG_own, stoG_dc, stoK_int, ap_sDic, fz1_dc, ixD1_some, ix_dic, ix_dc, ap_eTmp, scal_i, z2, k0, k1, k2, k3, bAll_p, all_T, List.length_map, decide_eq_true (show (2 : Int) ≤ (W.length : Int) by have := h.n2; omega), decide_eq_true (show (W.length : Int) ≤ 6 by have := h.n6; omega)]
theorem e4 (h : Ok W R) : s_need_league [lg W R] = .ok .none := by
  rw [e_need_league, f_need_league]
  simp only [ap_sSeq, ap_sNil, ap_sRet, ap_sRetN, ap_sCt, ap_sBk, ap_sRaise, ap_sExp, ap_sAsg, putL_d, putL_fr, ap_sIf, ap_sFor, ap_sUnp, un1_ok, ap_sPar, par2_nx, ap_sApp, ap_sExt, ext2_fr, ext2_d, ap_onOwn, on1_own, ap_sSto, sto2_int, sto3_some, fz1_d, fz1_un, fz1_own, ap_fzE_nil, ap_fzE, sq_nx, sq_rt, sq_bk, sq_ct, sq_ex, sq_stuck, okb, exb, stb, ap_eC, vr_d, vr_own, ap_eVar, ap_eBin, ap_eUn, ap_aNil, ap_aCons, ap_eFz, fzL_d, fzL_fr, fz_d, fz_fr, rd_d, rd_fr, rd_own, allD_nil, allD_cons, ap_eTup, ap_eLst, ap_eCall, ap_eBi, boolL_d, ap_tVal, ap_tAn, ap_tOr, ap_tNt, ap_tTrue, ap_eIf, ap_eAn, ap_eOr, ap_eNt, ap_eChain, ap_okB, ap_okI, add_i, sub_i, mul_i, lt_i, le_i, gt_i, ge_i, bLen_t, bLen_l, bLen_f, bLen_o, bLen_s, bInt_i, bInt_b, bList_t, bList_l, bList_f, bList_o, bTuple_t, bTuple_l, bTuple_f, bTuple_o, bMax_2, bMin_2, ix1_some, ix_t, ix_l, ix_f, ix_o, ix_s, at_0, at_1, at_2, ap_oNone, o1_i, ap_oSome, ap_eSl, sl_t, sl_l, sl_f, sl_o, itL_t, itL_l, ap_iEx, ap_iEn, ap_iZp, zipL_t, zipL_l, zipL_lt, ap_iR1, ap_iR2, int1_i, ap_gNm, ap_gTp, ap_gAll_nil, ap_gAll, semR_nx, semR_rt, List.getElem?_cons_zero, List.getElem?_cons_succ, List.set_cons_zero, List.set_cons_succ, List.length_cons, List.length_nil, if_true, if_false, Bool.not_true, Bool.not_false, Bool.false_eq_true, List.append_nil, List.nil_append, List.cons_append, reduceIte, isi_ii, isi_ib, isi_bi, isi_bb, isi_tt, isi_tl, isi_ll, isi_lt, isi_ss, and_d, or_d, and_b, or_b, Bool.or_false, Bool.false_or, Bool.or_true, Bool.true_or, Bool.and_true, Bool.true_and, Bool.and_false, Bool.false_and, wipe_nil, wipe_cons, D_nat, D_int, Nat.reduceAdd, Nat.reduceLeDiff, lm_ok, add_t, add_of, add_ff, add_df, add_dd, add_od, add_fd, Int.cast_ofNat_Int, Int.natCast_zero, Int.natCast_one, Nat.zero_add, Nat.zero_le, stoG_own, stoG_dc, stoK_int, ap_sDic, fz1_dc, ixD1_some, ix_dic, ix_dc, ap_eTmp, scal_i, e3 h]
theorem e4s {i : Nat} (h : i < W.length) : s_need_side [lg W R, .int (i : Int)] = .ok .none := by
  rw [e_need_side, f_need_side]
  simp only [ap_sSeq, ap_sNil, ap_sRet, ap_sRetN, ap_sCt, ap_sBk, ap_sRaise, ap_sExp, ap_sAsg, putL_d, putL_fr, ap_sIf, ap_sFor, ap_sUnp, un1_ok, ap_sPar, par2_nx, ap_sApp, ap_sExt, ext2_fr, ext2_d, ap_onOwn, on1_own, ap_sSto, sto2_int, sto3_some, fz1_d, fz1_un, fz1_own, ap_fzE_nil, ap_fzE, sq_nx, sq_rt, sq_bk, sq_ct, sq_ex, sq_stuck, okb, exb, stb, ap_eC, vr_d, vr_own, ap_eVar, ap_eBin, ap_eUn, ap_aNil, ap_aCons, ap_eFz, fzL_d, fzL_fr, fz_d, fz_fr, rd_d, rd_fr, rd_own, allD_nil, allD_cons, ap_eTup, ap_eLst, ap_eCall, ap_eBi, boolL_d, ap_tVal, ap_tAn, ap_tOr, ap_tNt, ap_tTrue, ap_eIf, ap_eAn, ap_eOr, ap_eNt, ap_eChain, ap_okB, ap_okI, add_i, sub_i, mul_i, lt_i, le_i, gt_i, ge_i, bLen_t, bLen_l, bLen_f, bLen_o, bLen_s, bInt_i, bInt_b, bList_t, bList_l, bList_f, bList_o, bTuple_t, bTuple_l, bTuple_f, bTuple_o, bMax_2, bMin_2, ix1_some, ix_t, ix_l, ix_f, ix_o, ix_s, at_0, at_1, at_2, ap_oNone, o1_i, ap_oSome, ap_eSl, sl_t, sl_l, sl_f, sl_o, itL_t, itL_l, ap_iEx, ap_iEn, ap_iZp, zipL_t, zipL_l, zipL_lt, ap_iR1, ap_iR2, int1_i, ap_gNm, ap_gTp, ap_gAll_nil, ap_gAll, semR_nx, semR_rt, List.getElem?_cons_zero, List.getElem?_cons_succ, List.set_cons_zero, List.set_cons_succ, List.length_cons, List.length_nil, if_true, if_false, Bool.not_true, Bool.not_false, Bool.false_eq_true, List.append_nil, List.nil_append, List.cons_append, reduceIte, isi_ii, isi_ib, isi_bi, isi_bb, isi_tt, isi_tl, isi_ll, isi_lt, isi_ss, and_d, or_d, and_b, or_b, Bool.or_false, Bool.false_or, Bool.or_true, Bool.true_or, Bool.and_true, Bool.true_and, Bool.and_false, Bool.false_and, wipe_nil, wipe_cons, D_nat, D_int, Nat.reduceAdd, Nat.reduceLeDiff, lm_ok, add_t, add_of, add_ff, add_df, add_dd, add_od, add_fd, Int.cast_ofNat_Int, Int.natCast_zero, Int.natCast_one, Nat.zero_add, Nat.zero_le, stoG_own, stoG_dc, stoK_int, ap_sDic, fz1_dc, ixD1_some, ix_dic, ix_dc, ap_eTmp, scal_i, List.length_map]
  rw [e1t (by omega) (by omega)]
  simp only [ap_sSeq, ap_sNil, ap_sRet, ap_sRetN, ap_sCt, ap_sBk, ap_sRaise, ap_sExp, ap_sAsg, putL_d, putL_fr, ap_sIf, ap_sFor, ap_sUnp, un1_ok, ap_sPar, par2_nx, ap_sApp, ap_sExt, ext2_fr, ext2_d, ap_onOwn, on1_own, ap_sSto, sto2_int, sto3_some, fz1_d, fz1_un, fz1_own, ap_fzE_nil, ap_fzE, sq_nx, sq_rt, sq_bk, sq_ct, sq_ex, sq_stuck, okb, exb, stb, ap_eC, vr_d, vr_own, ap_eVar, ap_eBin, ap_eUn, ap_aNil, ap_aCons, ap_eFz, fzL_d, fzL_fr, fz_d, fz_fr, rd_d, rd_fr, rd_own, allD_nil, allD_cons, ap_eTup, ap_eLst, ap_eCall, ap_eBi, boolL_d, ap_tVal, ap_tAn, ap_tOr, ap_tNt, ap_tTrue, ap_eIf, ap_eAn, ap_eOr, ap_eNt, ap_eChain, ap_okB, ap_okI, add_i, sub_i, mul_i, lt_i, le_i, gt_i, ge_i, bLen_t, bLen_l, bLen_f, bLen_o, bLen_s, bInt_i, bInt_b, bList_t, bList_l, bList_f, bList_o, bTuple_t, bTuple_l, bTuple_f, bTuple_o, bMax_2, bMin_2, ix1_some, ix_t, ix_l, ix_f, ix_o, ix_s, at_0, at_1, at_2, ap_oNone, o1_i, ap_oSome, ap_eSl, sl_t, sl_l, sl_f, sl_o, itL_t, itL_l, ap_iEx, ap_iEn, ap_iZp, zipL_t, zipL_l, zipL_lt, ap_iR1, ap_iR2, int1_i, ap_gNm, ap_gTp, ap_gAll_nil, ap_gAll, semR_nx, semR_rt, List.getElem?_cons_zero, List.getElem?_cons_succ, List.set_cons_zero, List.set_cons_succ, List.length_cons, List.length_nil, if_true, if_false, Bool.not_true, Bool.not_false, Bool.false_eq_true, List.append_nil, List.nil_append, List.cons_append, reduceIte, isi_ii, isi_ib, isi_bi, isi_bb, isi_tt, isi_tl, isi_ll, isi_lt, isi_ss, and_d, or_d, and_b, or_b, Bool.or_false, Bool.false_or, Bool.or_true, Bool.true_or, Bool.and_true, Bool.true_and, Bool.and_false, Bool.false_and, wipe_nil, wipe_cons, D_nat, D_int, Nat.reduceAdd, Nat.reduceLeDiff, lm_ok, add_t, add_of, add_ff, add_df, add_dd, add_od, add_fd, Int.cast_ofNat_Int, Int.natCast_zero, Int.natCast_one, Nat.zero_add, Nat.zero_le, stoG_own, stoG_dc, stoK_int, ap_sDic, fz1_dc, ixD1_some, ix_dic, ix_dc, ap_eTmp, scal_i]
def leftOf (R : List Row) (i : Nat) : Int := ((R.filter fun x => decide (i = x.a ∨ i = x.b)).map (·.c)).sum
theorem e5 {i : Nat} (h : R.length ≤ 100) : s_left_of [lg W R, .int (i : Int)] = .ok (.int (leftOf R i)) := by
  have k (l2 l3 l4 : L) : q_left_of_0 [L.d (lg W R), L.d (.int (i : Int)), l2, l3, l4] = .ok (.fr ((R.filter fun x => decide (i = x.a ∨ i = x.b)).map fun x => .int x.c)) := by
    refine eLc_filter (α := Row) (xs := R) Dt.D (fun x => decide (i = x.a ∨ i = x.b)) (fun x => .int x.c) (by simp only [ap_sSeq, ap_sNil, ap_sRet, ap_sRetN, ap_sCt, ap_sBk, ap_sRaise, ap_sExp, ap_sAsg, putL_d, putL_fr, ap_sIf, ap_sFor, ap_sUnp, un1_ok, ap_sPar, par2_nx, ap_sApp, ap_sExt, ext2_fr, ext2_d, ap_onOwn, on1_own, ap_sSto, sto2_int, sto3_some, fz1_d, fz1_un, fz1_own, ap_fzE_nil, ap_fzE, sq_nx, sq_rt, sq_bk, sq_ct, sq_ex, sq_stuck, okb, exb, stb, ap_eC, vr_d, vr_own, ap_eVar, ap_eBin, ap_eUn, ap_aNil, ap_aCons, ap_eFz, fzL_d, fzL_fr, fz_d, fz_fr, rd_d, rd_fr, rd_own, allD_nil, allD_cons, ap_eTup, ap_eLst, ap_eCall, ap_eBi, boolL_d, ap_tVal, ap_tAn, ap_tOr, ap_tNt, ap_tTrue, ap_eIf, ap_eAn, ap_eOr, ap_eNt, ap_eChain, ap_okB, ap_okI, add_i, sub_i, mul_i, lt_i, le_i, gt_i, ge_i, bLen_t, bLen_l, bLen_f, bLen_o, bLen_s, bInt_i, bInt_b, bList_t, bList_l, bList_f, bList_o, bTuple_t, bTuple_l, bTuple_f, bTuple_o, bMax_2, bMin_2, ix1_some, ix_t, ix_l, ix_f, ix_o, ix_s, at_0, at_1, at_2, ap_oNone, o1_i, ap_oSome, ap_eSl, sl_t, sl_l, sl_f, sl_o, itL_t, itL_l, ap_iEx, ap_iEn, ap_iZp, zipL_t, zipL_l, zipL_lt, ap_iR1, ap_iR2, int1_i, ap_gNm, ap_gTp, ap_gAll_nil, ap_gAll, semR_nx, semR_rt, List.getElem?_cons_zero, List.getElem?_cons_succ, List.set_cons_zero, List.set_cons_succ, List.length_cons, List.length_nil, if_true, if_false, Bool.not_true, Bool.not_false, Bool.false_eq_true, List.append_nil, List.nil_append, List.cons_append, reduceIte, isi_ii, isi_ib, isi_bi, isi_bb, isi_tt, isi_tl, isi_ll, isi_lt, isi_ss, and_d, or_d, and_b, or_b, Bool.or_false, Bool.false_or, Bool.or_true, Bool.true_or, Bool.and_true, Bool.true_and, Bool.and_false, Bool.false_and, wipe_nil, wipe_cons, D_nat, D_int, Nat.reduceAdd, Nat.reduceLeDiff, lm_ok, add_t, add_of, add_ff, add_df, add_dd, add_od, add_fd, Int.cast_ofNat_Int, Int.natCast_zero, Int.natCast_one, Nat.zero_add, Nat.zero_le, stoG_own, stoG_dc, stoK_int, ap_sDic, fz1_dc, ixD1_some, ix_dic, ix_dc, ap_eTmp, scal_i]) rfl (by simp only [cap]; omega) fun y hx => ⟨_, rfl, ?_, fun _ => ?_⟩
    · simp only [ap_sSeq, ap_sNil, ap_sRet, ap_sRetN, ap_sCt, ap_sBk, ap_sRaise, ap_sExp, ap_sAsg, putL_d, putL_fr, ap_sIf, ap_sFor, ap_sUnp, un1_ok, ap_sPar, par2_nx, ap_sApp, ap_sExt, ext2_fr, ext2_d, ap_onOwn, on1_own, ap_sSto, sto2_int, sto3_some, fz1_d, fz1_un, fz1_own, ap_fzE_nil, ap_fzE, sq_nx, sq_rt, sq_bk, sq_ct, sq_ex, sq_stuck, okb, exb, stb, ap_eC, vr_d, vr_own, ap_eVar, ap_eBin, ap_eUn, ap_aNil, ap_aCons, ap_eFz, fzL_d, fzL_fr, fz_d, fz_fr, rd_d, rd_fr, rd_own, allD_nil, allD_cons, ap_eTup, ap_eLst, ap_eCall, ap_eBi, boolL_d, ap_tVal, ap_tAn, ap_tOr, ap_tNt, ap_tTrue, ap_eIf, ap_eAn, ap_eOr, ap_eNt, ap_eChain, ap_okB, ap_okI, add_i, sub_i, mul_i, lt_i, le_i, gt_i, ge_i, bLen_t, bLen_l, bLen_f, bLen_o, bLen_s, bInt_i, bInt_b, bList_t, bList_l, bList_f, bList_o, bTuple_t, bTuple_l, bTuple_f, bTuple_o, bMax_2, bMin_2, ix1_some, ix_t, ix_l, ix_f, ix_o, ix_s, at_0, at_1, at_2, ap_oNone, o1_i, ap_oSome, ap_eSl, sl_t, sl_l, sl_f, sl_o, itL_t, itL_l, ap_iEx, ap_iEn, ap_iZp, zipL_t, zipL_l, zipL_lt, ap_iR1, ap_iR2, int1_i, ap_gNm, ap_gTp, ap_gAll_nil, ap_gAll, semR_nx, semR_rt, List.getElem?_cons_zero, List.getElem?_cons_succ, List.set_cons_zero, List.set_cons_succ, List.length_cons, List.length_nil, if_true, if_false, Bool.not_true, Bool.not_false, Bool.false_eq_true, List.append_nil, List.nil_append, List.cons_append, reduceIte, isi_ii, isi_ib, isi_bi, isi_bb, isi_tt, isi_tl, isi_ll, isi_lt, isi_ss, and_d, or_d, and_b, or_b, Bool.or_false, Bool.false_or, Bool.or_true, Bool.true_or, Bool.and_true, Bool.true_and, Bool.and_false, Bool.false_and, wipe_nil, wipe_cons, D_nat, D_int, Nat.reduceAdd, Nat.reduceLeDiff, lm_ok, add_t, add_of, add_ff, add_df, add_dd, add_od, add_fd, Int.cast_ofNat_Int, Int.natCast_zero, Int.natCast_one, Nat.zero_add, Nat.zero_le, stoG_own, stoG_dc, stoK_int, ap_sDic, fz1_dc, ixD1_some, ix_dic, ix_dc, ap_eTmp, scal_i, in_t2]
      rw [show decide ((i : Int) = y.a ∨ (i : Int) = y.b) = decide (i = y.a ∨ i = y.b) from decide_eq_decide.mpr (by omega)]
    · simp only [ap_sSeq, ap_sNil, ap_sRet, ap_sRetN, ap_sCt, ap_sBk, ap_sRaise, ap_sExp, ap_sAsg, putL_d, putL_fr, ap_sIf, ap_sFor, ap_sUnp, un1_ok, ap_sPar, par2_nx, ap_sApp, ap_sExt, ext2_fr, ext2_d, ap_onOwn, on1_own, ap_sSto, sto2_int, sto3_some, fz1_d, fz1_un, fz1_own, ap_fzE_nil, ap_fzE, sq_nx, sq_rt, sq_bk, sq_ct, sq_ex, sq_stuck, okb, exb, stb, ap_eC, vr_d, vr_own, ap_eVar, ap_eBin, ap_eUn, ap_aNil, ap_aCons, ap_eFz, fzL_d, fzL_fr, fz_d, fz_fr, rd_d, rd_fr, rd_own, allD_nil, allD_cons, ap_eTup, ap_eLst, ap_eCall, ap_eBi, boolL_d, ap_tVal, ap_tAn, ap_tOr, ap_tNt, ap_tTrue, ap_eIf, ap_eAn, ap_eOr, ap_eNt, ap_eChain, ap_okB, ap_okI, add_i, sub_i, mul_i, lt_i, le_i, gt_i, ge_i, bLen_t, bLen_l, bLen_f, bLen_o, bLen_s, bInt_i, bInt_b, bList_t, bList_l, bList_f, bList_o, bTuple_t, bTuple_l, bTuple_f, bTuple_o, bMax_2, bMin_2, ix1_some, ix_t, ix_l, ix_f, ix_o, ix_s, at_0, at_1, at_2, ap_oNone, o1_i, ap_oSome, ap_eSl, sl_t, sl_l, sl_f, sl_o, itL_t, itL_l, ap_iEx, ap_iEn, ap_iZp, zipL_t, zipL_l, zipL_lt, ap_iR1, ap_iR2, int1_i, ap_gNm, ap_gTp, ap_gAll_nil, ap_gAll, semR_nx, semR_rt, List.getElem?_cons_zero, List.getElem?_cons_succ, List.set_cons_zero, List.set_cons_succ, List.length_cons, List.length_nil, if_true, if_false, Bool.not_true, Bool.not_false, Bool.false_eq_true, List.append_nil, List.nil_append, List.cons_append, reduceIte, isi_ii, isi_ib, isi_bi, isi_bb, isi_tt, isi_tl, isi_ll, isi_lt, isi_ss, and_d, or_d, and_b, or_b, Bool.or_false, Bool.false_or, Bool.or_true, Bool.true_or, Bool.and_true, Bool.true_and, Bool.and_false, Bool.false_and, wipe_nil, wipe_cons, D_nat, D_int, Nat.reduceAdd, Nat.reduceLeDiff, lm_ok, add_t, add_of, add_ff, add_df, add_dd, add_od, add_fd, Int.cast_ofNat_Int, Int.natCast_zero, Int.natCast_one, Nat.zero_add, Nat.zero_le, stoG_own, stoG_dc, stoK_int, ap_sDic, fz1_dc, ixD1_some, ix_dic, ix_dc, ap_eTmp, scal_i]
  rw [e_left_of, f_left_of]
  simp only [ap_sSeq, ap_sNil, ap_sRet, ap_sRetN, ap_sCt, ap_sBk, ap_sRaise, ap_sExp, ap_sAsg, putL_d, putL_fr, ap_sIf, ap_sFor, ap_sUnp, un1_ok, ap_sPar, par2_nx, ap_sApp, ap_sExt, ext2_fr, ext2_d, ap_onOwn, on1_own, ap_sSto, sto2_int, sto3_some, fz1_d, fz1_un, fz1_own, ap_fzE_nil, ap_fzE, sq_nx, sq_rt, sq_bk, sq_ct, sq_ex, sq_stuck, okb, exb, stb, ap_eC, vr_d, vr_own, ap_eVar, ap_eBin, ap_eUn, ap_aNil, ap_aCons, ap_eFz, fzL_d, fzL_fr, fz_d, fz_fr, rd_d, rd_fr, rd_own, allD_nil, allD_cons, ap_eTup, ap_eLst, ap_eCall, ap_eBi, boolL_d, ap_tVal, ap_tAn, ap_tOr, ap_tNt, ap_tTrue, ap_eIf, ap_eAn, ap_eOr, ap_eNt, ap_eChain, ap_okB, ap_okI, add_i, sub_i, mul_i, lt_i, le_i, gt_i, ge_i, bLen_t, bLen_l, bLen_f, bLen_o, bLen_s, bInt_i, bInt_b, bList_t, bList_l, bList_f, bList_o, bTuple_t, bTuple_l, bTuple_f, bTuple_o, bMax_2, bMin_2, ix1_some, ix_t, ix_l, ix_f, ix_o, ix_s, at_0, at_1, at_2, ap_oNone, o1_i, ap_oSome, ap_eSl, sl_t, sl_l, sl_f, sl_o, itL_t, itL_l, ap_iEx, ap_iEn, ap_iZp, zipL_t, zipL_l, zipL_lt, ap_iR1, ap_iR2, int1_i, ap_gNm, ap_gTp, ap_gAll_nil, ap_gAll, semR_nx, semR_rt, List.getElem?_cons_zero, List.getElem?_cons_succ, List.set_cons_zero, List.set_cons_succ, List.length_cons, List.length_nil, if_true, if_false, Bool.not_true, Bool.not_false, Bool.false_eq_true, List.append_nil, List.nil_append, List.cons_append, reduceIte, isi_ii, isi_ib, isi_bi, isi_bb, isi_tt, isi_tl, isi_ll, isi_lt, isi_ss, and_d, or_d, and_b, or_b, Bool.or_false, Bool.false_or, Bool.or_true, Bool.true_or, Bool.and_true, Bool.true_and, Bool.and_false, Bool.false_and, wipe_nil, wipe_cons, D_nat, D_int, Nat.reduceAdd, Nat.reduceLeDiff, lm_ok, add_t, add_of, add_ff, add_df, add_dd, add_od, add_fd, Int.cast_ofNat_Int, Int.natCast_zero, Int.natCast_one, Nat.zero_add, Nat.zero_le, stoG_own, stoG_dc, stoK_int, ap_sDic, fz1_dc, ixD1_some, ix_dic, ix_dc, ap_eTmp, scal_i, k, bSum_p]
  rfl
theorem e6 {i : Nat} (h : Ok W R) (hi : i < W.length) : s_matches_left [lg W R, .int (i : Int)] = .ok (.int (leftOf R i)) := by
  rw [e_matches_left, f_matches_left]
  simp only [ap_sSeq, ap_sNil, ap_sRet, ap_sRetN, ap_sCt, ap_sBk, ap_sRaise, ap_sExp, ap_sAsg, putL_d, putL_fr, ap_sIf, ap_sFor, ap_sUnp, un1_ok, ap_sPar, par2_nx, ap_sApp, ap_sExt, ext2_fr, ext2_d, ap_onOwn, on1_own, ap_sSto, sto2_int, sto3_some, fz1_d, fz1_un, fz1_own, ap_fzE_nil, ap_fzE, sq_nx, sq_rt, sq_bk, sq_ct, sq_ex, sq_stuck, okb, exb, stb, ap_eC, vr_d, vr_own, ap_eVar, ap_eBin, ap_eUn, ap_aNil, ap_aCons, ap_eFz, fzL_d, fzL_fr, fz_d, fz_fr, rd_d, rd_fr, rd_own, allD_nil, allD_cons, ap_eTup, ap_eLst, ap_eCall, ap_eBi, boolL_d, ap_tVal, ap_tAn, ap_tOr, ap_tNt, ap_tTrue, ap_eIf, ap_eAn, ap_eOr, ap_eNt, ap_eChain, ap_okB, ap_okI, add_i, sub_i, mul_i, lt_i, le_i, gt_i, ge_i, bLen_t, bLen_l, bLen_f, bLen_o, bLen_s, bInt_i, bInt_b, bList_t, bList_l, bList_f, bList_o, bTuple_t, bTuple_l, bTuple_f, bTuple_o, bMax_2, bMin_2, ix1_some, ix_t, ix_l, ix_f, ix_o, ix_s, at_0, at_1, at_2, ap_oNone, o1_i, ap_oSome, ap_eSl, sl_t, sl_l, sl_f, sl_o, itL_t, itL_l, ap_iEx, ap_iEn, ap_iZp, zipL_t, zipL_l, zipL_lt, ap_iR1, ap_iR2, int1_i, ap_gNm, ap_gTp, ap_gAll_nil, ap_gAll, semR_nx, semR_rt, List.getElem?_cons_zero, List.getElem?_cons_succ, List.set_cons_zero, List.set_cons_succ, List.length_cons, List.length_nil, if_true, if_false, Bool.not_true, Bool.not_false, Bool.false_eq_true, List.append_nil, List.nil_append, List.cons_append, reduceIte, isi_ii, isi_ib, isi_bi, isi_bb, isi_tt, isi_tl, isi_ll, isi_lt, isi_ss, and_d, or_d, and_b, or_b, Bool.or_false, Bool.false_or, Bool.or_true, Bool.true_or, Bool.and_true, Bool.true_and, Bool.and_false, Bool.false_and, wipe_nil, wipe_cons, D_nat, D_int, Nat.reduceAdd, Nat.reduceLeDiff, lm_ok, add_t, add_of, add_ff, add_df, add_dd, add_od, add_fd, Int.cast_ofNat_Int, Int.natCast_zero, Int.natCast_one, Nat.zero_add, Nat.zero_le, stoG_own, stoG_dc, stoK_int, ap_sDic, fz1_dc, ixD1_some, ix_dic, ix_dc, ap_eTmp, scal_i, e4 h, e4s hi, e5 h.l]
def placesOf (W : List Int) : List Int := W.map fun o => 1 + ((W.filter fun x => decide (o < x)).length : Int)
theorem e7 (h : W.length ≤ 100) : s_places_of [.tuple (W.map .int)] = .ok (.list ((placesOf W).map .int)) := by
  have k0 (o : Int) (l2 : L) : q_places_of_0 [L.d (.tuple (W.map .int)), L.d (.int o), l2] = .ok (.fr ((W.filter fun x => decide (o < x)).map fun _ => .int 1)) := by
    refine eLc_filter (α := Int) (xs := W) .int (fun x => decide (o < x)) (fun x => .int 1) (by simp only [ap_sSeq, ap_sNil, ap_sRet, ap_sRetN, ap_sCt, ap_sBk, ap_sRaise, ap_sExp, ap_sAsg, putL_d, putL_fr, ap_sIf, ap_sFor, ap_sUnp, un1_ok, ap_sPar, par2_nx, ap_sApp, ap_sExt, ext2_fr, ext2_d, ap_onOwn, on1_own, ap_sSto, sto2_int, sto3_some, fz1_d, fz1_un, fz1_own, ap_fzE_nil, ap_fzE, sq_nx, sq_rt, sq_bk, sq_ct, sq_ex, sq_stuck, okb, exb, stb, ap_eC, vr_d, vr_own, ap_eVar, ap_eBin, ap_eUn, ap_aNil, ap_aCons, ap_eFz, fzL_d, fzL_fr, fz_d, fz_fr, rd_d, rd_fr, rd_own, allD_nil, allD_cons, ap_eTup, ap_eLst, ap_eCall, ap_eBi, boolL_d, ap_tVal, ap_tAn, ap_tOr, ap_tNt, ap_tTrue, ap_eIf, ap_eAn, ap_eOr, ap_eNt, ap_eChain, ap_okB, ap_okI, add_i, sub_i, mul_i, lt_i, le_i, gt_i, ge_i, bLen_t, bLen_l, bLen_f, bLen_o, bLen_s, bInt_i, bInt_b, bList_t, bList_l, bList_f, bList_o, bTuple_t, bTuple_l, bTuple_f, bTuple_o, bMax_2, bMin_2, ix1_some, ix_t, ix_l, ix_f, ix_o, ix_s, at_0, at_1, at_2, ap_oNone, o1_i, ap_oSome, ap_eSl, sl_t, sl_l, sl_f, sl_o, itL_t, itL_l, ap_iEx, ap_iEn, ap_iZp, zipL_t, zipL_l, zipL_lt, ap_iR1, ap_iR2, int1_i, ap_gNm, ap_gTp, ap_gAll_nil, ap_gAll, semR_nx, semR_rt, List.getElem?_cons_zero, List.getElem?_cons_succ, List.set_cons_zero, List.set_cons_succ, List.length_cons, List.length_nil, if_true, if_false, Bool.not_true, Bool.not_false, Bool.false_eq_true, List.append_nil, List.nil_append, List.cons_append, reduceIte, isi_ii, isi_ib, isi_bi, isi_bb, isi_tt, isi_tl, isi_ll, isi_lt, isi_ss, and_d, or_d, and_b, or_b, Bool.or_false, Bool.false_or, Bool.or_true, Bool.true_or, Bool.and_true, Bool.true_and, Bool.and_false, Bool.false_and, wipe_nil, wipe_cons, D_nat, D_int, Nat.reduceAdd, Nat.reduceLeDiff, lm_ok, add_t, add_of, add_ff, add_df, add_dd, add_od, add_fd, Int.cast_ofNat_Int, Int.natCast_zero, Int.natCast_one, Nat.zero_add, Nat.zero_le, stoG_own, stoG_dc, stoK_int, ap_sDic, fz1_dc, ixD1_some, ix_dic, ix_dc, ap_eTmp, scal_i]) rfl (by simp only [cap]; omega) fun y hx => ⟨_, rfl, ?_, fun _ => ?_⟩
    · simp only [ap_sSeq, ap_sNil, ap_sRet, ap_sRetN, ap_sCt, ap_sBk, ap_sRaise, ap_sExp, ap_sAsg, putL_d, putL_fr, ap_sIf, ap_sFor, ap_sUnp, un1_ok, ap_sPar, par2_nx, ap_sApp, ap_sExt, ext2_fr, ext2_d, ap_onOwn, on1_own, ap_sSto, sto2_int, sto3_some, fz1_d, fz1_un, fz1_own, ap_fzE_nil, ap_fzE, sq_nx, sq_rt, sq_bk, sq_ct, sq_ex, sq_stuck, okb, exb, stb, ap_eC, vr_d, vr_own, ap_eVar, ap_eBin, ap_eUn, ap_aNil, ap_aCons, ap_eFz, fzL_d, fzL_fr, fz_d, fz_fr, rd_d, rd_fr, rd_own, allD_nil, allD_cons, ap_eTup, ap_eLst, ap_eCall, ap_eBi, boolL_d, ap_tVal, ap_tAn, ap_tOr, ap_tNt, ap_tTrue, ap_eIf, ap_eAn, ap_eOr, ap_eNt, ap_eChain, ap_okB, ap_okI, add_i, sub_i, mul_i, lt_i, le_i, gt_i, ge_i, bLen_t, bLen_l, bLen_f, bLen_o, bLen_s, bInt_i, bInt_b, bList_t, bList_l, bList_f, bList_o, bTuple_t, bTuple_l, bTuple_f, bTuple_o, bMax_2, bMin_2, ix1_some, ix_t, ix_l, ix_f, ix_o, ix_s, at_0, at_1, at_2, ap_oNone, o1_i, ap_oSome, ap_eSl, sl_t, sl_l, sl_f, sl_o, itL_t, itL_l, ap_iEx, ap_iEn, ap_iZp, zipL_t, zipL_l, zipL_lt, ap_iR1, ap_iR2, int1_i, ap_gNm, ap_gTp, ap_gAll_nil, ap_gAll, semR_nx, semR_rt, List.getElem?_cons_zero, List.getElem?_cons_succ, List.set_cons_zero, List.set_cons_succ, List.length_cons, List.length_nil, if_true, if_false, Bool.not_true, Bool.not_false, Bool.false_eq_true, List.append_nil, List.nil_append, List.cons_append, reduceIte, isi_ii, isi_ib, isi_bi, isi_bb, isi_tt, isi_tl, isi_ll, isi_lt, isi_ss, and_d, or_d, and_b, or_b, Bool.or_false, Bool.false_or, Bool.or_true, Bool.true_or, Bool.and_true, Bool.true_and, Bool.and_false, Bool.false_and, wipe_nil, wipe_cons, D_nat, D_int, Nat.reduceAdd, Nat.reduceLeDiff, lm_ok, add_t, add_of, add_ff, add_df, add_dd, add_od, add_fd, Int.cast_ofNat_Int, Int.natCast_zero, Int.natCast_one, Nat.zero_add, Nat.zero_le, stoG_own, stoG_dc, stoK_int, ap_sDic, fz1_dc, ixD1_some, ix_dic, ix_dc, ap_eTmp, scal_i]
    · simp only [ap_sSeq, ap_sNil, ap_sRet, ap_sRetN, ap_sCt, ap_sBk, ap_sRaise, ap_sExp, ap_sAsg, putL_d, putL_fr, ap_sIf, ap_sFor, ap_sUnp, un1_ok, ap_sPar, par2_nx, ap_sApp, ap_sExt, ext2_fr, ext2_d, ap_onOwn, on1_own, ap_sSto, sto2_int, sto3_some, fz1_d, fz1_un, fz1_own, ap_fzE_nil, ap_fzE, sq_nx, sq_rt, sq_bk, sq_ct, sq_ex, sq_stuck, okb, exb, stb, ap_eC, vr_d, vr_own, ap_eVar, ap_eBin, ap_eUn, ap_aNil, ap_aCons, ap_eFz, fzL_d, fzL_fr, fz_d, fz_fr, rd_d, rd_fr, rd_own, allD_nil, allD_cons, ap_eTup, ap_eLst, ap_eCall, ap_eBi, boolL_d, ap_tVal, ap_tAn, ap_tOr, ap_tNt, ap_tTrue, ap_eIf, ap_eAn, ap_eOr, ap_eNt, ap_eChain, ap_okB, ap_okI, add_i, sub_i, mul_i, lt_i, le_i, gt_i, ge_i, bLen_t, bLen_l, bLen_f, bLen_o, bLen_s, bInt_i, bInt_b, bList_t, bList_l, bList_f, bList_o, bTuple_t, bTuple_l, bTuple_f, bTuple_o, bMax_2, bMin_2, ix1_some, ix_t, ix_l, ix_f, ix_o, ix_s, at_0, at_1, at_2, ap_oNone, o1_i, ap_oSome, ap_eSl, sl_t, sl_l, sl_f, sl_o, itL_t, itL_l, ap_iEx, ap_iEn, ap_iZp, zipL_t, zipL_l, zipL_lt, ap_iR1, ap_iR2, int1_i, ap_gNm, ap_gTp, ap_gAll_nil, ap_gAll, semR_nx, semR_rt, List.getElem?_cons_zero, List.getElem?_cons_succ, List.set_cons_zero, List.set_cons_succ, List.length_cons, List.length_nil, if_true, if_false, Bool.not_true, Bool.not_false, Bool.false_eq_true, List.append_nil, List.nil_append, List.cons_append, reduceIte, isi_ii, isi_ib, isi_bi, isi_bb, isi_tt, isi_tl, isi_ll, isi_lt, isi_ss, and_d, or_d, and_b, or_b, Bool.or_false, Bool.false_or, Bool.or_true, Bool.true_or, Bool.and_true, Bool.true_and, Bool.and_false, Bool.false_and, wipe_nil, wipe_cons, D_nat, D_int, Nat.reduceAdd, Nat.reduceLeDiff, lm_ok, add_t, add_of, add_ff, add_df, add_dd, add_od, add_fd, Int.cast_ofNat_Int, Int.natCast_zero, Int.natCast_one, Nat.zero_add, Nat.zero_le, stoG_own, stoG_dc, stoK_int, ap_sDic, fz1_dc, ixD1_some, ix_dic, ix_dc, ap_eTmp, scal_i]
  have k1 (l1 l2 : L) : q_places_of_1 [L.d (.tuple (W.map .int)), l1, l2] = .ok (.fr (W.map fun o => .int (1 + ((W.filter fun x => decide (o < x)).length : Int)))) := by
    refine eLc_map (α := Int) (xs := W) .int (fun o => .int (1 + ((W.filter fun x => decide (o < x)).length : Int))) (by simp only [ap_sSeq, ap_sNil, ap_sRet, ap_sRetN, ap_sCt, ap_sBk, ap_sRaise, ap_sExp, ap_sAsg, putL_d, putL_fr, ap_sIf, ap_sFor, ap_sUnp, un1_ok, ap_sPar, par2_nx, ap_sApp, ap_sExt, ext2_fr, ext2_d, ap_onOwn, on1_own, ap_sSto, sto2_int, sto3_some, fz1_d, fz1_un, fz1_own, ap_fzE_nil, ap_fzE, sq_nx, sq_rt, sq_bk, sq_ct, sq_ex, sq_stuck, okb, exb, stb, ap_eC, vr_d, vr_own, ap_eVar, ap_eBin, ap_eUn, ap_aNil, ap_aCons, ap_eFz, fzL_d, fzL_fr, fz_d, fz_fr, rd_d, rd_fr, rd_own, allD_nil, allD_cons, ap_eTup, ap_eLst, ap_eCall, ap_eBi, boolL_d, ap_tVal, ap_tAn, ap_tOr, ap_tNt, ap_tTrue, ap_eIf, ap_eAn, ap_eOr, ap_eNt, ap_eChain, ap_okB, ap_okI, add_i, sub_i, mul_i, lt_i, le_i, gt_i, ge_i, bLen_t, bLen_l, bLen_f, bLen_o, bLen_s, bInt_i, bInt_b, bList_t, bList_l, bList_f, bList_o, bTuple_t, bTuple_l, bTuple_f, bTuple_o, bMax_2, bMin_2, ix1_some, ix_t, ix_l, ix_f, ix_o, ix_s, at_0, at_1, at_2, ap_oNone, o1_i, ap_oSome, ap_eSl, sl_t, sl_l, sl_f, sl_o, itL_t, itL_l, ap_iEx, ap_iEn, ap_iZp, zipL_t, zipL_l, zipL_lt, ap_iR1, ap_iR2, int1_i, ap_gNm, ap_gTp, ap_gAll_nil, ap_gAll, semR_nx, semR_rt, List.getElem?_cons_zero, List.getElem?_cons_succ, List.set_cons_zero, List.set_cons_succ, List.length_cons, List.length_nil, if_true, if_false, Bool.not_true, Bool.not_false, Bool.false_eq_true, List.append_nil, List.nil_append, List.cons_append, reduceIte, isi_ii, isi_ib, isi_bi, isi_bb, isi_tt, isi_tl, isi_ll, isi_lt, isi_ss, and_d, or_d, and_b, or_b, Bool.or_false, Bool.false_or, Bool.or_true, Bool.true_or, Bool.and_true, Bool.true_and, Bool.and_false, Bool.false_and, wipe_nil, wipe_cons, D_nat, D_int, Nat.reduceAdd, Nat.reduceLeDiff, lm_ok, add_t, add_of, add_ff, add_df, add_dd, add_od, add_fd, Int.cast_ofNat_Int, Int.natCast_zero, Int.natCast_one, Nat.zero_add, Nat.zero_le, stoG_own, stoG_dc, stoK_int, ap_sDic, fz1_dc, ixD1_some, ix_dic, ix_dc, ap_eTmp, scal_i]) rfl (by simp only [cap]; omega) fun y hx => ⟨_, rfl, ?_⟩
    simp only [ap_sSeq, ap_sNil, ap_sRet, ap_sRetN, ap_sCt, ap_sBk, ap_sRaise, ap_sExp, ap_sAsg, putL_d, putL_fr, ap_sIf, ap_sFor, ap_sUnp, un1_ok, ap_sPar, par2_nx, ap_sApp, ap_sExt, ext2_fr, ext2_d, ap_onOwn, on1_own, ap_sSto, sto2_int, sto3_some, fz1_d, fz1_un, fz1_own, ap_fzE_nil, ap_fzE, sq_nx, sq_rt, sq_bk, sq_ct, sq_ex, sq_stuck, okb, exb, stb, ap_eC, vr_d, vr_own, ap_eVar, ap_eBin, ap_eUn, ap_aNil, ap_aCons, ap_eFz, fzL_d, fzL_fr, fz_d, fz_fr, rd_d, rd_fr, rd_own, allD_nil, allD_cons, ap_eTup, ap_eLst, ap_eCall, ap_eBi, boolL_d, ap_tVal, ap_tAn, ap_tOr, ap_tNt, ap_tTrue, ap_eIf, ap_eAn, ap_eOr, ap_eNt, ap_eChain, ap_okB, ap_okI, add_i, sub_i, mul_i, lt_i, le_i, gt_i, ge_i, bLen_t, bLen_l, bLen_f, bLen_o, bLen_s, bInt_i, bInt_b, bList_t, bList_l, bList_f, bList_o, bTuple_t, bTuple_l, bTuple_f, bTuple_o, bMax_2, bMin_2, ix1_some, ix_t, ix_l, ix_f, ix_o, ix_s, at_0, at_1, at_2, ap_oNone, o1_i, ap_oSome, ap_eSl, sl_t, sl_l, sl_f, sl_o, itL_t, itL_l, ap_iEx, ap_iEn, ap_iZp, zipL_t, zipL_l, zipL_lt, ap_iR1, ap_iR2, int1_i, ap_gNm, ap_gTp, ap_gAll_nil, ap_gAll, semR_nx, semR_rt, List.getElem?_cons_zero, List.getElem?_cons_succ, List.set_cons_zero, List.set_cons_succ, List.length_cons, List.length_nil, if_true, if_false, Bool.not_true, Bool.not_false, Bool.false_eq_true, List.append_nil, List.nil_append, List.cons_append, reduceIte, isi_ii, isi_ib, isi_bi, isi_bb, isi_tt, isi_tl, isi_ll, isi_lt, isi_ss, and_d, or_d, and_b, or_b, Bool.or_false, Bool.false_or, Bool.or_true, Bool.true_or, Bool.and_true, Bool.true_and, Bool.and_false, Bool.false_and, wipe_nil, wipe_cons, D_nat, D_int, Nat.reduceAdd, Nat.reduceLeDiff, lm_ok, add_t, add_of, add_ff, add_df, add_dd, add_od, add_fd, Int.cast_ofNat_Int, Int.natCast_zero, Int.natCast_one, Nat.zero_add, Nat.zero_le, stoG_own, stoG_dc, stoK_int, ap_sDic, fz1_dc, ixD1_some, ix_dic, ix_dc, ap_eTmp, scal_i, k0, List.length_map]
  rw [e_places_of, f_places_of]
  simp only [ap_sSeq, ap_sNil, ap_sRet, ap_sRetN, ap_sCt, ap_sBk, ap_sRaise, ap_sExp, ap_sAsg, putL_d, putL_fr, ap_sIf, ap_sFor, ap_sUnp, un1_ok, ap_sPar, par2_nx, ap_sApp, ap_sExt, ext2_fr, ext2_d, ap_onOwn, on1_own, ap_sSto, sto2_int, sto3_some, fz1_d, fz1_un, fz1_own, ap_fzE_nil, ap_fzE, sq_nx, sq_rt, sq_bk, sq_ct, sq_ex, sq_stuck, okb, exb, stb, ap_eC, vr_d, vr_own, ap_eVar, ap_eBin, ap_eUn, ap_aNil, ap_aCons, ap_eFz, fzL_d, fzL_fr, fz_d, fz_fr, rd_d, rd_fr, rd_own, allD_nil, allD_cons, ap_eTup, ap_eLst, ap_eCall, ap_eBi, boolL_d, ap_tVal, ap_tAn, ap_tOr, ap_tNt, ap_tTrue, ap_eIf, ap_eAn, ap_eOr, ap_eNt, ap_eChain, ap_okB, ap_okI, add_i, sub_i, mul_i, lt_i, le_i, gt_i, ge_i, bLen_t, bLen_l, bLen_f, bLen_o, bLen_s, bInt_i, bInt_b, bList_t, bList_l, bList_f, bList_o, bTuple_t, bTuple_l, bTuple_f, bTuple_o, bMax_2, bMin_2, ix1_some, ix_t, ix_l, ix_f, ix_o, ix_s, at_0, at_1, at_2, ap_oNone, o1_i, ap_oSome, ap_eSl, sl_t, sl_l, sl_f, sl_o, itL_t, itL_l, ap_iEx, ap_iEn, ap_iZp, zipL_t, zipL_l, zipL_lt, ap_iR1, ap_iR2, int1_i, ap_gNm, ap_gTp, ap_gAll_nil, ap_gAll, semR_nx, semR_rt, List.getElem?_cons_zero, List.getElem?_cons_succ, List.set_cons_zero, List.set_cons_succ, List.length_cons, List.length_nil, if_true, if_false, Bool.not_true, Bool.not_false, Bool.false_eq_true, List.append_nil, List.nil_append, List.cons_append, reduceIte, isi_ii, isi_ib, isi_bi, isi_bb, isi_tt, isi_tl, isi_ll, isi_lt, isi_ss, and_d, or_d, and_b, or_b, Bool.or_false, Bool.false_or, Bool.or_true, Bool.true_or, Bool.and_true, Bool.true_and, Bool.and_false, Bool.false_and, wipe_nil, wipe_cons, D_nat, D_int, Nat.reduceAdd, Nat.reduceLeDiff, lm_ok, add_t, add_of, add_ff, add_df, add_dd, add_od, add_fd, Int.cast_ofNat_Int, Int.natCast_zero, Int.natCast_one, Nat.zero_add, Nat.zero_le, stoG_own, stoG_dc, stoK_int, ap_sDic, fz1_dc, ixD1_some, ix_dic, ix_dc, ap_eTmp, scal_i, k1]
  unfold placesOf
  rw [List.map_map]
  rfl
theorem e7b (h : Ok W R) : s_places [lg W R] = .ok (.list ((placesOf W).map .int)) := by
  rw [e_places, f_places]
  simp only [ap_sSeq, ap_sNil, ap_sRet, ap_sRetN, ap_sCt, ap_sBk, ap_sRaise, ap_sExp, ap_sAsg, putL_d, putL_fr, ap_sIf, ap_sFor, ap_sUnp, un1_ok, ap_sPar, par2_nx, ap_sApp, ap_sExt, ext2_fr, ext2_d, ap_onOwn, on1_own, ap_sSto, sto2_int, sto3_some, fz1_d, fz1_un, fz1_own, ap_fzE_nil, ap_fzE, sq_nx, sq_rt, sq_bk, sq_ct, sq_ex, sq_stuck, okb, exb, stb, ap_eC, vr_d, vr_own, ap_eVar, ap_eBin, ap_eUn, ap_aNil, ap_aCons, ap_eFz, fzL_d, fzL_fr, fz_d, fz_fr, rd_d, rd_fr, rd_own, allD_nil, allD_cons, ap_eTup, ap_eLst, ap_eCall, ap_eBi, boolL_d, ap_tVal, ap_tAn, ap_tOr, ap_tNt, ap_tTrue, ap_eIf, ap_eAn, ap_eOr, ap_eNt, ap_eChain, ap_okB, ap_okI, add_i, sub_i, mul_i, lt_i, le_i, gt_i, ge_i, bLen_t, bLen_l, bLen_f, bLen_o, bLen_s, bInt_i, bInt_b, bList_t, bList_l, bList_f, bList_o, bTuple_t, bTuple_l, bTuple_f, bTuple_o, bMax_2, bMin_2, ix1_some, ix_t, ix_l, ix_f, ix_o, ix_s, at_0, at_1, at_2, ap_oNone, o1_i, ap_oSome, ap_eSl, sl_t, sl_l, sl_f, sl_o, itL_t, itL_l, ap_iEx, ap_iEn, ap_iZp, zipL_t, zipL_l, zipL_lt, ap_iR1, ap_iR2, int1_i, ap_gNm, ap_gTp, ap_gAll_nil, ap_gAll, semR_nx, semR_rt, List.getElem?_cons_zero, List.getElem?_cons_succ, List.set_cons_zero, List.set_cons_succ, List.length_cons, List.length_nil, if_true, if_false, Bool.not_true, Bool.not_false, Bool.false_eq_true, List.append_nil, List.nil_append, List.cons_append, reduceIte, isi_ii, isi_ib, isi_bi, isi_bb, isi_tt, isi_tl, isi_ll, isi_lt, isi_ss, and_d, or_d, and_b, or_b, Bool.or_false, Bool.false_or, Bool.or_true, Bool.true_or, Bool.and_true, Bool.true_and, Bool.and_false, Bool.false_and, wipe_nil, wipe_cons, D_nat, D_int, Nat.reduceAdd, Nat.reduceLeDiff, lm_ok, add_t, add_of, add_ff, add_df, add_dd, add_od, add_fd, Int.cast_ofNat_Int, Int.natCast_zero, Int.natCast_one, Nat.zero_add, Nat.zero_le, stoG_own, stoG_dc, stoK_int, ap_sDic, fz1_dc, ixD1_some, ix_dic, ix_dc, ap_eTmp, scal_i, e4 h, e7 (W := W) (by have := h.n6; omega)]
theorem set_parts (W : List Int) (i : Nat) (v : Int) (h : i < W.length) : ((W.map PyData.int).take i ++ [.int v]) ++ (W.map PyData.int).drop (i + 1) = (W.set i v).map .int := by
  rw [List.set_eq_take_append_cons_drop, if_pos h]
  simp
theorem e8 {i : Nat} {v w : Int} (h : W[i]? = some w) (hl : W.length ≤ 100) : s_with_wins [.tuple (W.map .int), .int (i : Int), .int v] = .ok (.tuple ((W.set i (w + v)).map .int)) := by
  obtain ⟨hi, _⟩ := List.getElem?_eq_some_iff.mp h
  have a1 : atI (W.map PyData.int) (i : Int) = some (.int w) := at_nat (by rw [List.getElem?_map, h]; rfl)
  have c1 : (i : Int) + 1 = ((i + 1 : Nat) : Int) := by omega
  rw [e_with_wins, f_with_wins]
  simp only [ap_sSeq, ap_sNil, ap_sRet, ap_sRetN, ap_sCt, ap_sBk, ap_sRaise, ap_sExp, ap_sAsg, putL_d, putL_fr, ap_sIf, ap_sFor, ap_sUnp, un1_ok, ap_sPar, par2_nx, ap_sApp, ap_sExt, ext2_fr, ext2_d, ap_onOwn, on1_own, ap_sSto, sto2_int, sto3_some, fz1_d, fz1_un, fz1_own, ap_fzE_nil, ap_fzE, sq_nx, sq_rt, sq_bk, sq_ct, sq_ex, sq_stuck, okb, exb, stb, ap_eC, vr_d, vr_own, ap_eVar, ap_eBin, ap_eUn, ap_aNil, ap_aCons, ap_eFz, fzL_d, fzL_fr, fz_d, fz_fr, rd_d, rd_fr, rd_own, allD_nil, allD_cons, ap_eTup, ap_eLst, ap_eCall, ap_eBi, boolL_d, ap_tVal, ap_tAn, ap_tOr, ap_tNt, ap_tTrue, ap_eIf, ap_eAn, ap_eOr, ap_eNt, ap_eChain, ap_okB, ap_okI, add_i, sub_i, mul_i, lt_i, le_i, gt_i, ge_i, bLen_t, bLen_l, bLen_f, bLen_o, bLen_s, bInt_i, bInt_b, bList_t, bList_l, bList_f, bList_o, bTuple_t, bTuple_l, bTuple_f, bTuple_o, bMax_2, bMin_2, ix1_some, ix_t, ix_l, ix_f, ix_o, ix_s, at_0, at_1, at_2, ap_oNone, o1_i, ap_oSome, ap_eSl, sl_t, sl_l, sl_f, sl_o, itL_t, itL_l, ap_iEx, ap_iEn, ap_iZp, zipL_t, zipL_l, zipL_lt, ap_iR1, ap_iR2, int1_i, ap_gNm, ap_gTp, ap_gAll_nil, ap_gAll, semR_nx, semR_rt, List.getElem?_cons_zero, List.getElem?_cons_succ, List.set_cons_zero, List.set_cons_succ, List.length_cons, List.length_nil, if_true, if_false, Bool.not_true, Bool.not_false, Bool.false_eq_true, List.append_nil, List.nil_append, List.cons_append, reduceIte, isi_ii, isi_ib, isi_bi, isi_bb, isi_tt, isi_tl, isi_ll, isi_lt, isi_ss, and_d, or_d, and_b, or_b, Bool.or_false, Bool.false_or, Bool.or_true, Bool.true_or, Bool.and_true, Bool.true_and, Bool.and_false, Bool.false_and, wipe_nil, wipe_cons, D_nat, D_int, Nat.reduceAdd, Nat.reduceLeDiff, lm_ok, add_t, add_of, add_ff, add_df, add_dd, add_od, add_fd, Int.cast_ofNat_Int, Int.natCast_zero, Int.natCast_one, Nat.zero_add, Nat.zero_le, stoG_own, stoG_dc, stoK_int, ap_sDic, fz1_dc, ixD1_some, ix_dic, ix_dc, ap_eTmp, scal_i, a1, c1, cut_from, cut_to]
  rw [lm_ok (by simp; omega)]
  simp only [ap_sSeq, ap_sNil, ap_sRet, ap_sRetN, ap_sCt, ap_sBk, ap_sRaise, ap_sExp, ap_sAsg, putL_d, putL_fr, ap_sIf, ap_sFor, ap_sUnp, un1_ok, ap_sPar, par2_nx, ap_sApp, ap_sExt, ext2_fr, ext2_d, ap_onOwn, on1_own, ap_sSto, sto2_int, sto3_some, fz1_d, fz1_un, fz1_own, ap_fzE_nil, ap_fzE, sq_nx, sq_rt, sq_bk, sq_ct, sq_ex, sq_stuck, okb, exb, stb, ap_eC, vr_d, vr_own, ap_eVar, ap_eBin, ap_eUn, ap_aNil, ap_aCons, ap_eFz, fzL_d, fzL_fr, fz_d, fz_fr, rd_d, rd_fr, rd_own, allD_nil, allD_cons, ap_eTup, ap_eLst, ap_eCall, ap_eBi, boolL_d, ap_tVal, ap_tAn, ap_tOr, ap_tNt, ap_tTrue, ap_eIf, ap_eAn, ap_eOr, ap_eNt, ap_eChain, ap_okB, ap_okI, add_i, sub_i, mul_i, lt_i, le_i, gt_i, ge_i, bLen_t, bLen_l, bLen_f, bLen_o, bLen_s, bInt_i, bInt_b, bList_t, bList_l, bList_f, bList_o, bTuple_t, bTuple_l, bTuple_f, bTuple_o, bMax_2, bMin_2, ix1_some, ix_t, ix_l, ix_f, ix_o, ix_s, at_0, at_1, at_2, ap_oNone, o1_i, ap_oSome, ap_eSl, sl_t, sl_l, sl_f, sl_o, itL_t, itL_l, ap_iEx, ap_iEn, ap_iZp, zipL_t, zipL_l, zipL_lt, ap_iR1, ap_iR2, int1_i, ap_gNm, ap_gTp, ap_gAll_nil, ap_gAll, semR_nx, semR_rt, List.getElem?_cons_zero, List.getElem?_cons_succ, List.set_cons_zero, List.set_cons_succ, List.length_cons, List.length_nil, if_true, if_false, Bool.not_true, Bool.not_false, Bool.false_eq_true, List.append_nil, List.nil_append, List.cons_append, reduceIte, isi_ii, isi_ib, isi_bi, isi_bb, isi_tt, isi_tl, isi_ll, isi_lt, isi_ss, and_d, or_d, and_b, or_b, Bool.or_false, Bool.false_or, Bool.or_true, Bool.true_or, Bool.and_true, Bool.true_and, Bool.and_false, Bool.false_and, wipe_nil, wipe_cons, D_nat, D_int, Nat.reduceAdd, Nat.reduceLeDiff, lm_ok, add_t, add_of, add_ff, add_df, add_dd, add_od, add_fd, Int.cast_ofNat_Int, Int.natCast_zero, Int.natCast_one, Nat.zero_add, Nat.zero_le, stoG_own, stoG_dc, stoK_int, ap_sDic, fz1_dc, ixD1_some, ix_dic, ix_dc, ap_eTmp, scal_i]
  rw [lm_ok (by simp; omega)]
  simp only [ap_sSeq, ap_sNil, ap_sRet, ap_sRetN, ap_sCt, ap_sBk, ap_sRaise, ap_sExp, ap_sAsg, putL_d, putL_fr, ap_sIf, ap_sFor, ap_sUnp, un1_ok, ap_sPar, par2_nx, ap_sApp, ap_sExt, ext2_fr, ext2_d, ap_onOwn, on1_own, ap_sSto, sto2_int, sto3_some, fz1_d, fz1_un, fz1_own, ap_fzE_nil, ap_fzE, sq_nx, sq_rt, sq_bk, sq_ct, sq_ex, sq_stuck, okb, exb, stb, ap_eC, vr_d, vr_own, ap_eVar, ap_eBin, ap_eUn, ap_aNil, ap_aCons, ap_eFz, fzL_d, fzL_fr, fz_d, fz_fr, rd_d, rd_fr, rd_own, allD_nil, allD_cons, ap_eTup, ap_eLst, ap_eCall, ap_eBi, boolL_d, ap_tVal, ap_tAn, ap_tOr, ap_tNt, ap_tTrue, ap_eIf, ap_eAn, ap_eOr, ap_eNt, ap_eChain, ap_okB, ap_okI, add_i, sub_i, mul_i, lt_i, le_i, gt_i, ge_i, bLen_t, bLen_l, bLen_f, bLen_o, bLen_s, bInt_i, bInt_b, bList_t, bList_l, bList_f, bList_o, bTuple_t, bTuple_l, bTuple_f, bTuple_o, bMax_2, bMin_2, ix1_some, ix_t, ix_l, ix_f, ix_o, ix_s, at_0, at_1, at_2, ap_oNone, o1_i, ap_oSome, ap_eSl, sl_t, sl_l, sl_f, sl_o, itL_t, itL_l, ap_iEx, ap_iEn, ap_iZp, zipL_t, zipL_l, zipL_lt, ap_iR1, ap_iR2, int1_i, ap_gNm, ap_gTp, ap_gAll_nil, ap_gAll, semR_nx, semR_rt, List.getElem?_cons_zero, List.getElem?_cons_succ, List.set_cons_zero, List.set_cons_succ, List.length_cons, List.length_nil, if_true, if_false, Bool.not_true, Bool.not_false, Bool.false_eq_true, List.append_nil, List.nil_append, List.cons_append, reduceIte, isi_ii, isi_ib, isi_bi, isi_bb, isi_tt, isi_tl, isi_ll, isi_lt, isi_ss, and_d, or_d, and_b, or_b, Bool.or_false, Bool.false_or, Bool.or_true, Bool.true_or, Bool.and_true, Bool.true_and, Bool.and_false, Bool.false_and, wipe_nil, wipe_cons, D_nat, D_int, Nat.reduceAdd, Nat.reduceLeDiff, lm_ok, add_t, add_of, add_ff, add_df, add_dd, add_od, add_fd, Int.cast_ofNat_Int, Int.natCast_zero, Int.natCast_one, Nat.zero_add, Nat.zero_le, stoG_own, stoG_dc, stoK_int, ap_sDic, fz1_dc, ixD1_some, ix_dic, ix_dc, ap_eTmp, scal_i, set_parts W i (w + v) hi]
end
/-! playing -/
def hit (x : Row) (p : Nat × Nat) : Int := if (x.a, x.b) = p then 1 else 0
def playR (R : List Row) (p : Nat × Nat) : List Row := R.filterMap fun x => if 0 < x.c - hit x p then some ⟨x.a, x.b, x.c - hit x p⟩ else none
def pr (w l : Nat) : Nat × Nat := (min w l, max w l)
structure Can (W : List Int) (R : List Row) (w l : Nat) : Prop where
  hw : w < W.length
  hl : l < W.length
  hx : ∃ v, W[w]? = some v ∧ v < 60
  hr : ∃ x ∈ R, (x.a, x.b) = pr w l
abbrev Pst := List Row × L × L
def pstep (p : Nat × Nat) (s : Pst) (x : Row) : Pst := (s.1 ++ (if 0 < x.c - hit x p then [⟨x.a, x.b, x.c - hit x p⟩] else []), .d (Dt.D x), .d (.int (x.c - hit x p)))
theorem pstep_fold (p : Nat × Nat) : ∀ (R : List Row) (s : Pst), (R.foldl (pstep p) s).1 = s.1 ++ playR R p
  | [], s => by simp [playR]
  | x :: R, s => by
    rw [List.foldl_cons, pstep_fold p R]
    unfold playR
    rw [List.filterMap_cons]
    by_cases h : 0 < x.c - hit x p
    · simp only [pstep, if_pos h, List.append_assoc]
      rfl
    · simp only [pstep, if_neg h, List.append_nil]
section
variable {W : List Int} {R : List Row} {w l : Nat}
theorem eq_pair (a b c d : Nat) : opEq false (.d (.tuple [.int (a : Int), .int (b : Int)])) (.d (.tuple [.int (c : Int), .int (d : Int)])) = .ok (.d (.bool (decide ((a, b) = (c, d))))) := eq_D (α := Nat × Nat) (a := (a, b)) (b := (c, d)) (by decide) rfl rfl
theorem e9 (h : Ok W R) (c : Can W R w l) {v : Int} (hv : W[w]? = some v) : s_played [lg W R, .int (w : Int), .int (l : Int)] = .ok (lg (W.set w (v + 1)) (playR R (pr w l))) := by
  have hp : (if (l : Int) < (w : Int) then (l : Int) else (w : Int)) = ((pr w l).1 : Nat) := by
    show _ = ((min w l : Nat) : Int)
    split <;> omega
  have hq : (if (l : Int) > (w : Int) then (l : Int) else (w : Int)) = ((pr w l).2 : Nat) := by
    show _ = ((max w l : Nat) : Int)
    split <;> omega
  generalize hpr : pr w l = p at hp hq
  have k0 (l1 l2 l3 l4 l5 l6 : L) : q_played_0 [L.d (lg W R), l1, l2, l3, l4, l5, l6] = .ok (.fr ((R.map fun x => (x.a, x.b)).map Dt.D)) := by
    rw [List.map_map]
    refine eLc_map (α := Row) (xs := R) Dt.D _ (by simp only [ap_sSeq, ap_sNil, ap_sRet, ap_sRetN, ap_sCt, ap_sBk, ap_sRaise, ap_sExp, ap_sAsg, putL_d, putL_fr, ap_sIf, ap_sFor, ap_sUnp, un1_ok, ap_sPar, par2_nx, ap_sApp, ap_sExt, ext2_fr, ext2_d, ap_onOwn, on1_own, ap_sSto, sto2_int, sto3_some, fz1_d, fz1_un, fz1_own, ap_fzE_nil, ap_fzE, sq_nx, sq_rt, sq_bk, sq_ct, sq_ex, sq_stuck, okb, exb, stb, ap_eC, vr_d, vr_own, ap_eVar, ap_eBin, ap_eUn, ap_aNil, ap_aCons, ap_eFz, fzL_d, fzL_fr, fz_d, fz_fr, rd_d, rd_fr, rd_own, allD_nil, allD_cons, ap_eTup, ap_eLst, ap_eCall, ap_eBi, boolL_d, ap_tVal, ap_tAn, ap_tOr, ap_tNt, ap_tTrue, ap_eIf, ap_eAn, ap_eOr, ap_eNt, ap_eChain, ap_okB, ap_okI, add_i, sub_i, mul_i, lt_i, le_i, gt_i, ge_i, bLen_t, bLen_l, bLen_f, bLen_o, bLen_s, bInt_i, bInt_b, bList_t, bList_l, bList_f, bList_o, bTuple_t, bTuple_l, bTuple_f, bTuple_o, bMax_2, bMin_2, ix1_some, ix_t, ix_l, ix_f, ix_o, ix_s, at_0, at_1, at_2, ap_oNone, o1_i, ap_oSome, ap_eSl, sl_t, sl_l, sl_f, sl_o, itL_t, itL_l, ap_iEx, ap_iEn, ap_iZp, zipL_t, zipL_l, zipL_lt, ap_iR1, ap_iR2, int1_i, ap_gNm, ap_gTp, ap_gAll_nil, ap_gAll, semR_nx, semR_rt, List.getElem?_cons_zero, List.getElem?_cons_succ, List.set_cons_zero, List.set_cons_succ, List.length_cons, List.length_nil, if_true, if_false, Bool.not_true, Bool.not_false, Bool.false_eq_true, List.append_nil, List.nil_append, List.cons_append, reduceIte, isi_ii, isi_ib, isi_bi, isi_bb, isi_tt, isi_tl, isi_ll, isi_lt, isi_ss, and_d, or_d, and_b, or_b, Bool.or_false, Bool.false_or, Bool.or_true, Bool.true_or, Bool.and_true, Bool.true_and, Bool.and_false, Bool.false_and, wipe_nil, wipe_cons, D_nat, D_int, Nat.reduceAdd, Nat.reduceLeDiff, lm_ok, add_t, add_of, add_ff, add_df, add_dd, add_od, add_fd, Int.cast_ofNat_Int, Int.natCast_zero, Int.natCast_one, Nat.zero_add, Nat.zero_le, stoG_own, stoG_dc, stoK_int, ap_sDic, fz1_dc, ixD1_some, ix_dic, ix_dc, ap_eTmp, scal_i]) rfl (by have := h.l; simp only [cap]; omega) fun y hx => ⟨_, rfl, ?_⟩
    simp only [ap_sSeq, ap_sNil, ap_sRet, ap_sRetN, ap_sCt, ap_sBk, ap_sRaise, ap_sExp, ap_sAsg, putL_d, putL_fr, ap_sIf, ap_sFor, ap_sUnp, un1_ok, ap_sPar, par2_nx, ap_sApp, ap_sExt, ext2_fr, ext2_d, ap_onOwn, on1_own, ap_sSto, sto2_int, sto3_some, fz1_d, fz1_un, fz1_own, ap_fzE_nil, ap_fzE, sq_nx, sq_rt, sq_bk, sq_ct, sq_ex, sq_stuck, okb, exb, stb, ap_eC, vr_d, vr_own, ap_eVar, ap_eBin, ap_eUn, ap_aNil, ap_aCons, ap_eFz, fzL_d, fzL_fr, fz_d, fz_fr, rd_d, rd_fr, rd_own, allD_nil, allD_cons, ap_eTup, ap_eLst, ap_eCall, ap_eBi, boolL_d, ap_tVal, ap_tAn, ap_tOr, ap_tNt, ap_tTrue, ap_eIf, ap_eAn, ap_eOr, ap_eNt, ap_eChain, ap_okB, ap_okI, add_i, sub_i, mul_i, lt_i, le_i, gt_i, ge_i, bLen_t, bLen_l, bLen_f, bLen_o, bLen_s, bInt_i, bInt_b, bList_t, bList_l, bList_f, bList_o, bTuple_t, bTuple_l, bTuple_f, bTuple_o, bMax_2, bMin_2, ix1_some, ix_t, ix_l, ix_f, ix_o, ix_s, at_0, at_1, at_2, ap_oNone, o1_i, ap_oSome, ap_eSl, sl_t, sl_l, sl_f, sl_o, itL_t, itL_l, ap_iEx, ap_iEn, ap_iZp, zipL_t, zipL_l, zipL_lt, ap_iR1, ap_iR2, int1_i, ap_gNm, ap_gTp, ap_gAll_nil, ap_gAll, semR_nx, semR_rt, List.getElem?_cons_zero, List.getElem?_cons_succ, List.set_cons_zero, List.set_cons_succ, List.length_cons, List.length_nil, if_true, if_false, Bool.not_true, Bool.not_false, Bool.false_eq_true, List.append_nil, List.nil_append, List.cons_append, reduceIte, isi_ii, isi_ib, isi_bi, isi_bb, isi_tt, isi_tl, isi_ll, isi_lt, isi_ss, and_d, or_d, and_b, or_b, Bool.or_false, Bool.false_or, Bool.or_true, Bool.true_or, Bool.and_true, Bool.true_and, Bool.and_false, Bool.false_and, wipe_nil, wipe_cons, D_nat, D_int, Nat.reduceAdd, Nat.reduceLeDiff, lm_ok, add_t, add_of, add_ff, add_df, add_dd, add_od, add_fd, Int.cast_ofNat_Int, Int.natCast_zero, Int.natCast_one, Nat.zero_add, Nat.zero_le, stoG_own, stoG_dc, stoK_int, ap_sDic, fz1_dc, ixD1_some, ix_dic, ix_dc, ap_eTmp, scal_i, Dr, cut2]
    rfl
  have m0 : opIn true (.d (.tuple [.int (p.1 : Int), .int (p.2 : Int)])) (.fr ((R.map fun x => (x.a, x.b)).map Dt.D)) = .ok (.d (.bool false)) := by
    obtain ⟨x, hx, e⟩ := c.hr
    rw [hpr] at e
    exact notin_mem (α := Nat × Nat) (a := (p.1, p.2)) (ys := R.map fun x => (x.a, x.b)) (by decide) rfl rfl (List.mem_map.mpr ⟨x, hx, e⟩)
  have m1 : atI (W.map PyData.int) (w : Int) = some (.int v) := at_nat (by rw [List.getElem?_map, hv]; rfl)
  have m2 : opEq false (.d (.int v)) (.d (.int 60)) = .ok (.d (.bool false)) := by
    rw [eq_D (α := Int) (a := v) (b := 60) (by decide) rfl rfl]
    obtain ⟨v', e, hl⟩ := c.hx
    rw [hv] at e
    cases e
    rw [decide_eq_false (by omega)]
  have lp := forGo_T (α := Row) (σ := Pst) (g := gNm 5) (body := b_played_1) Dt.D
    (fun s => [L.d (lg W R), .d (.int (w : Int)), .d (.int (l : Int)), .d (.tuple [.int (p.1 : Int), .int (p.2 : Int)]), .own (s.1.map Dt.D), s.2.1, s.2.2]) (pstep p) (fun i s => s.1.length ≤ i) (xs := R) (n := 0) (s := ([], .un, .un)) (Nat.le_refl _) fun i s x hx hi => by
      have hi2 := (List.getElem?_eq_some_iff.mp hx).1
      have hl := h.l
      refine ⟨_, rfl, .inl ?_, ?_⟩
      · rw [b_played_1]
        have e3 : opEq false (.d (.tuple [.int (x.a : Int), .int (x.b : Int)])) (.d (.tuple [.int (p.1 : Int), .int (p.2 : Int)])) = .ok (.d (.bool (decide ((x.a, x.b) = p)))) := eq_pair _ _ _ _
        have e4 : (if decide ((x.a, x.b) = p) = true then (1 : Int) else 0) = hit x p := by
          unfold hit
          by_cases q : (x.a, x.b) = p
          · rw [if_pos q, decide_eq_true q, if_pos rfl]
          · rw [if_neg q, decide_eq_false q, if_neg (by decide)]
        simp only [ap_sSeq, ap_sNil, ap_sRet, ap_sRetN, ap_sCt, ap_sBk, ap_sRaise, ap_sExp, ap_sAsg, putL_d, putL_fr, ap_sIf, ap_sFor, ap_sUnp, un1_ok, ap_sPar, par2_nx, ap_sApp, ap_sExt, ext2_fr, ext2_d, ap_onOwn, on1_own, ap_sSto, sto2_int, sto3_some, fz1_d, fz1_un, fz1_own, ap_fzE_nil, ap_fzE, sq_nx, sq_rt, sq_bk, sq_ct, sq_ex, sq_stuck, okb, exb, stb, ap_eC, vr_d, vr_own, ap_eVar, ap_eBin, ap_eUn, ap_aNil, ap_aCons, ap_eFz, fzL_d, fzL_fr, fz_d, fz_fr, rd_d, rd_fr, rd_own, allD_nil, allD_cons, ap_eTup, ap_eLst, ap_eCall, ap_eBi, boolL_d, ap_tVal, ap_tAn, ap_tOr, ap_tNt, ap_tTrue, ap_eIf, ap_eAn, ap_eOr, ap_eNt, ap_eChain, ap_okB, ap_okI, add_i, sub_i, mul_i, lt_i, le_i, gt_i, ge_i, bLen_t, bLen_l, bLen_f, bLen_o, bLen_s, bInt_i, bInt_b, bList_t, bList_l, bList_f, bList_o, bTuple_t, bTuple_l, bTuple_f, bTuple_o, bMax_2, bMin_2, ix1_some, ix_t, ix_l, ix_f, ix_o, ix_s, at_0, at_1, at_2, ap_oNone, o1_i, ap_oSome, ap_eSl, sl_t, sl_l, sl_f, sl_o, itL_t, itL_l, ap_iEx, ap_iEn, ap_iZp, zipL_t, zipL_l, zipL_lt, ap_iR1, ap_iR2, int1_i, ap_gNm, ap_gTp, ap_gAll_nil, ap_gAll, semR_nx, semR_rt, List.getElem?_cons_zero, List.getElem?_cons_succ, List.set_cons_zero, List.set_cons_succ, List.length_cons, List.length_nil, if_true, if_false, Bool.not_true, Bool.not_false, Bool.false_eq_true, List.append_nil, List.nil_append, List.cons_append, reduceIte, isi_ii, isi_ib, isi_bi, isi_bb, isi_tt, isi_tl, isi_ll, isi_lt, isi_ss, and_d, or_d, and_b, or_b, Bool.or_false, Bool.false_or, Bool.or_true, Bool.true_or, Bool.and_true, Bool.true_and, Bool.and_false, Bool.false_and, wipe_nil, wipe_cons, D_nat, D_int, Nat.reduceAdd, Nat.reduceLeDiff, lm_ok, add_t, add_of, add_ff, add_df, add_dd, add_od, add_fd, Int.cast_ofNat_Int, Int.natCast_zero, Int.natCast_one, Nat.zero_add, Nat.zero_le, stoG_own, stoG_dc, stoK_int, ap_sDic, fz1_dc, ixD1_some, ix_dic, ix_dc, ap_eTmp, scal_i, Dr, cut2, e3, e4]
        by_cases q : 0 < x.c - hit x p
        · simp only [ap_sSeq, ap_sNil, ap_sRet, ap_sRetN, ap_sCt, ap_sBk, ap_sRaise, ap_sExp, ap_sAsg, putL_d, putL_fr, ap_sIf, ap_sFor, ap_sUnp, un1_ok, ap_sPar, par2_nx, ap_sApp, ap_sExt, ext2_fr, ext2_d, ap_onOwn, on1_own, ap_sSto, sto2_int, sto3_some, fz1_d, fz1_un, fz1_own, ap_fzE_nil, ap_fzE, sq_nx, sq_rt, sq_bk, sq_ct, sq_ex, sq_stuck, okb, exb, stb, ap_eC, vr_d, vr_own, ap_eVar, ap_eBin, ap_eUn, ap_aNil, ap_aCons, ap_eFz, fzL_d, fzL_fr, fz_d, fz_fr, rd_d, rd_fr, rd_own, allD_nil, allD_cons, ap_eTup, ap_eLst, ap_eCall, ap_eBi, boolL_d, ap_tVal, ap_tAn, ap_tOr, ap_tNt, ap_tTrue, ap_eIf, ap_eAn, ap_eOr, ap_eNt, ap_eChain, ap_okB, ap_okI, add_i, sub_i, mul_i, lt_i, le_i, gt_i, ge_i, bLen_t, bLen_l, bLen_f, bLen_o, bLen_s, bInt_i, bInt_b, bList_t, bList_l, bList_f, bList_o, bTuple_t, bTuple_l, bTuple_f, bTuple_o, bMax_2, bMin_2, ix1_some, ix_t, ix_l, ix_f, ix_o, ix_s, at_0, at_1, at_2, ap_oNone, o1_i, ap_oSome, ap_eSl, sl_t, sl_l, sl_f, sl_o, itL_t, itL_l, ap_iEx, ap_iEn, ap_iZp, zipL_t, zipL_l, zipL_lt, ap_iR1, ap_iR2, int1_i, ap_gNm, ap_gTp, ap_gAll_nil, ap_gAll, semR_nx, semR_rt, List.getElem?_cons_zero, List.getElem?_cons_succ, List.set_cons_zero, List.set_cons_succ, List.length_cons, List.length_nil, if_true, if_false, Bool.not_true, Bool.not_false, Bool.false_eq_true, List.append_nil, List.nil_append, List.cons_append, reduceIte, isi_ii, isi_ib, isi_bi, isi_bb, isi_tt, isi_tl, isi_ll, isi_lt, isi_ss, and_d, or_d, and_b, or_b, Bool.or_false, Bool.false_or, Bool.or_true, Bool.true_or, Bool.and_true, Bool.true_and, Bool.and_false, Bool.false_and, wipe_nil, wipe_cons, D_nat, D_int, Nat.reduceAdd, Nat.reduceLeDiff, lm_ok, add_t, add_of, add_ff, add_df, add_dd, add_od, add_fd, Int.cast_ofNat_Int, Int.natCast_zero, Int.natCast_one, Nat.zero_add, Nat.zero_le, stoG_own, stoG_dc, stoK_int, ap_sDic, fz1_dc, ixD1_some, ix_dic, ix_dc, ap_eTmp, scal_i, q, decide_true, Dr, cut2, List.length_map, lm_ok (show s.1.length + 1 ≤ 100000 by omega), pstep]
          simp only [if_pos q, List.map_append]
          rfl
        · simp only [ap_sSeq, ap_sNil, ap_sRet, ap_sRetN, ap_sCt, ap_sBk, ap_sRaise, ap_sExp, ap_sAsg, putL_d, putL_fr, ap_sIf, ap_sFor, ap_sUnp, un1_ok, ap_sPar, par2_nx, ap_sApp, ap_sExt, ext2_fr, ext2_d, ap_onOwn, on1_own, ap_sSto, sto2_int, sto3_some, fz1_d, fz1_un, fz1_own, ap_fzE_nil, ap_fzE, sq_nx, sq_rt, sq_bk, sq_ct, sq_ex, sq_stuck, okb, exb, stb, ap_eC, vr_d, vr_own, ap_eVar, ap_eBin, ap_eUn, ap_aNil, ap_aCons, ap_eFz, fzL_d, fzL_fr, fz_d, fz_fr, rd_d, rd_fr, rd_own, allD_nil, allD_cons, ap_eTup, ap_eLst, ap_eCall, ap_eBi, boolL_d, ap_tVal, ap_tAn, ap_tOr, ap_tNt, ap_tTrue, ap_eIf, ap_eAn, ap_eOr, ap_eNt, ap_eChain, ap_okB, ap_okI, add_i, sub_i, mul_i, lt_i, le_i, gt_i, ge_i, bLen_t, bLen_l, bLen_f, bLen_o, bLen_s, bInt_i, bInt_b, bList_t, bList_l, bList_f, bList_o, bTuple_t, bTuple_l, bTuple_f, bTuple_o, bMax_2, bMin_2, ix1_some, ix_t, ix_l, ix_f, ix_o, ix_s, at_0, at_1, at_2, ap_oNone, o1_i, ap_oSome, ap_eSl, sl_t, sl_l, sl_f, sl_o, itL_t, itL_l, ap_iEx, ap_iEn, ap_iZp, zipL_t, zipL_l, zipL_lt, ap_iR1, ap_iR2, int1_i, ap_gNm, ap_gTp, ap_gAll_nil, ap_gAll, semR_nx, semR_rt, List.getElem?_cons_zero, List.getElem?_cons_succ, List.set_cons_zero, List.set_cons_succ, List.length_cons, List.length_nil, if_true, if_false, Bool.not_true, Bool.not_false, Bool.false_eq_true, List.append_nil, List.nil_append, List.cons_append, reduceIte, isi_ii, isi_ib, isi_bi, isi_bb, isi_tt, isi_tl, isi_ll, isi_lt, isi_ss, and_d, or_d, and_b, or_b, Bool.or_false, Bool.false_or, Bool.or_true, Bool.true_or, Bool.and_true, Bool.true_and, Bool.and_false, Bool.false_and, wipe_nil, wipe_cons, D_nat, D_int, Nat.reduceAdd, Nat.reduceLeDiff, lm_ok, add_t, add_of, add_ff, add_df, add_dd, add_od, add_fd, Int.cast_ofNat_Int, Int.natCast_zero, Int.natCast_one, Nat.zero_add, Nat.zero_le, stoG_own, stoG_dc, stoK_int, ap_sDic, fz1_dc, ixD1_some, ix_dic, ix_dc, ap_eTmp, scal_i, q, decide_false, pstep, Dr]
      · unfold pstep
        rw [List.length_append]
        split
        · simp; omega
        · simp; omega
  have lp := lp.1
  rw [e_played, f_played]
  simp only [ap_sSeq, ap_sNil, ap_sRet, ap_sRetN, ap_sCt, ap_sBk, ap_sRaise, ap_sExp, ap_sAsg, putL_d, putL_fr, ap_sIf, ap_sFor, ap_sUnp, un1_ok, ap_sPar, par2_nx, ap_sApp, ap_sExt, ext2_fr, ext2_d, ap_onOwn, on1_own, ap_sSto, sto2_int, sto3_some, fz1_d, fz1_un, fz1_own, ap_fzE_nil, ap_fzE, sq_nx, sq_rt, sq_bk, sq_ct, sq_ex, sq_stuck, okb, exb, stb, ap_eC, vr_d, vr_own, ap_eVar, ap_eBin, ap_eUn, ap_aNil, ap_aCons, ap_eFz, fzL_d, fzL_fr, fz_d, fz_fr, rd_d, rd_fr, rd_own, allD_nil, allD_cons, ap_eTup, ap_eLst, ap_eCall, ap_eBi, boolL_d, ap_tVal, ap_tAn, ap_tOr, ap_tNt, ap_tTrue, ap_eIf, ap_eAn, ap_eOr, ap_eNt, ap_eChain, ap_okB, ap_okI, add_i, sub_i, mul_i, lt_i, le_i, gt_i, ge_i, bLen_t, bLen_l, bLen_f, bLen_o, bLen_s, bInt_i, bInt_b, bList_t, bList_l, bList_f, bList_o, bTuple_t, bTuple_l, bTuple_f, bTuple_o, bMax_2, bMin_2, ix1_some, ix_t, ix_l, ix_f, ix_o, ix_s, at_0, at_1, at_2, ap_oNone, o1_i, ap_oSome, ap_eSl, sl_t, sl_l, sl_f, sl_o, itL_t, itL_l, ap_iEx, ap_iEn, ap_iZp, zipL_t, zipL_l, zipL_lt, ap_iR1, ap_iR2, int1_i, ap_gNm, ap_gTp, ap_gAll_nil, ap_gAll, semR_nx, semR_rt, List.getElem?_cons_zero, List.getElem?_cons_succ, List.set_cons_zero, List.set_cons_succ, List.length_cons, List.length_nil, if_true, if_false, Bool.not_true, Bool.not_false, Bool.false_eq_true, List.append_nil, List.nil_append, List.cons_append, reduceIte, isi_ii, isi_ib, isi_bi, isi_bb, isi_tt, isi_tl, isi_ll, isi_lt, isi_ss, and_d, or_d, and_b, or_b, Bool.or_false, Bool.false_or, Bool.or_true, Bool.true_or, Bool.and_true, Bool.true_and, Bool.and_false, Bool.false_and, wipe_nil, wipe_cons, D_nat, D_int, Nat.reduceAdd, Nat.reduceLeDiff, lm_ok, add_t, add_of, add_ff, add_df, add_dd, add_od, add_fd, Int.cast_ofNat_Int, Int.natCast_zero, Int.natCast_one, Nat.zero_add, Nat.zero_le, stoG_own, stoG_dc, stoK_int, ap_sDic, fz1_dc, ixD1_some, ix_dic, ix_dc, ap_eTmp, scal_i, e4 h, e4s c.hw, e4s c.hl, hp, hq, k0, m0, m1, m2]
  have lp2 := lp
  simp only [List.map_nil] at lp2
  simp only [ap_sSeq, ap_sNil, ap_sRet, ap_sRetN, ap_sCt, ap_sBk, ap_sRaise, ap_sExp, ap_sAsg, putL_d, putL_fr, ap_sIf, ap_sFor, ap_sUnp, un1_ok, ap_sPar, par2_nx, ap_sApp, ap_sExt, ext2_fr, ext2_d, ap_onOwn, on1_own, ap_sSto, sto2_int, sto3_some, fz1_d, fz1_un, fz1_own, ap_fzE_nil, ap_fzE, sq_nx, sq_rt, sq_bk, sq_ct, sq_ex, sq_stuck, okb, exb, stb, ap_eC, vr_d, vr_own, ap_eVar, ap_eBin, ap_eUn, ap_aNil, ap_aCons, ap_eFz, fzL_d, fzL_fr, fz_d, fz_fr, rd_d, rd_fr, rd_own, allD_nil, allD_cons, ap_eTup, ap_eLst, ap_eCall, ap_eBi, boolL_d, ap_tVal, ap_tAn, ap_tOr, ap_tNt, ap_tTrue, ap_eIf, ap_eAn, ap_eOr, ap_eNt, ap_eChain, ap_okB, ap_okI, add_i, sub_i, mul_i, lt_i, le_i, gt_i, ge_i, bLen_t, bLen_l, bLen_f, bLen_o, bLen_s, bInt_i, bInt_b, bList_t, bList_l, bList_f, bList_o, bTuple_t, bTuple_l, bTuple_f, bTuple_o, bMax_2, bMin_2, ix1_some, ix_t, ix_l, ix_f, ix_o, ix_s, at_0, at_1, at_2, ap_oNone, o1_i, ap_oSome, ap_eSl, sl_t, sl_l, sl_f, sl_o, itL_t, itL_l, ap_iEx, ap_iEn, ap_iZp, zipL_t, zipL_l, zipL_lt, ap_iR1, ap_iR2, int1_i, ap_gNm, ap_gTp, ap_gAll_nil, ap_gAll, semR_nx, semR_rt, List.getElem?_cons_zero, List.getElem?_cons_succ, List.set_cons_zero, List.set_cons_succ, List.length_cons, List.length_nil, if_true, if_false, Bool.not_true, Bool.not_false, Bool.false_eq_true, List.append_nil, List.nil_append, List.cons_append, reduceIte, isi_ii, isi_ib, isi_bi, isi_bb, isi_tt, isi_tl, isi_ll, isi_lt, isi_ss, and_d, or_d, and_b, or_b, Bool.or_false, Bool.false_or, Bool.or_true, Bool.true_or, Bool.and_true, Bool.true_and, Bool.and_false, Bool.false_and, wipe_nil, wipe_cons, D_nat, D_int, Nat.reduceAdd, Nat.reduceLeDiff, lm_ok, add_t, add_of, add_ff, add_df, add_dd, add_od, add_fd, Int.cast_ofNat_Int, Int.natCast_zero, Int.natCast_one, Nat.zero_add, Nat.zero_le, stoG_own, stoG_dc, stoK_int, ap_sDic, fz1_dc, ixD1_some, ix_dic, ix_dc, ap_eTmp, scal_i, lp2, e8 hv (by have := h.n6; omega)]
  rw [pstep_fold, List.nil_append]
end
def addAt (W : List Int) (i : Nat) (v : Int) : List Int := W.set i (W.getD i 0 + v)
theorem addAt_len (W : List Int) (i : Nat) (v : Int) : (addAt W i v).length = W.length := by
  unfold addAt
  rw [List.length_set]
theorem getD_some {W : List Int} {i : Nat} (h : i < W.length) : W[i]? = some (W.getD i 0) := by
  rw [List.getD_eq_getElem?_getD, List.getElem?_eq_getElem h]
  rfl
theorem e8' {W : List Int} {i : Nat} {v : Int} (h : i < W.length) (hl : W.length ≤ 100) : s_with_wins [.tuple (W.map .int), .int (i : Int), .int v] = .ok (.tuple ((addAt W i v).map .int)) := e8 (getD_some h) hl
section
variable {W : List Int} {R : List Row} {w l : Nat}
theorem e9' (h : Ok W R) (c : Can W R w l) : s_played [lg W R, .int (w : Int), .int (l : Int)] = .ok (lg (addAt W w 1) (playR R (pr w l))) := e9 h c (getD_some c.hw)
/-! ended -/
def endS (W : List Int) (p : Row × Int) : List Int := addAt (addAt W p.1.a p.2) p.1.b (p.1.c - p.2)
theorem endS_len (W : List Int) (p : Row × Int) : (endS W p).length = W.length := by
  unfold endS
  rw [addAt_len, addAt_len]
abbrev Est := List Int × L × L × L × L
theorem fold_fst {α β γ : Type} (f : β × γ → α → β × γ) (g : β → α → β) (h : ∀ s x, (f s x).1 = g s.1 x) : ∀ (xs : List α) (s : β × γ), (xs.foldl f s).1 = xs.foldl g s.1
  | [], _ => rfl
  | x :: xs, s => by rw [List.foldl_cons, List.foldl_cons, fold_fst f g h xs, h]
theorem e10w (h6 : W.length ≤ 6) (hr : ∀ x ∈ R, x.a < W.length ∧ x.b < W.length) {fs : List Int} (hl : fs.length = R.length) : s_ended_of [lg W R, .tuple (fs.map .int)] = .ok (.tuple (((R.zip fs).foldl endS W).map .int)) := by
  have lp := forGo_T (α := Row × Int) (σ := Est) (g := gTp [(gTp [(gNm 4), (gNm 5), (gNm 6)]), (gNm 3)]) (body := b_ended_of_0) (fun p => .tuple [Dt.D p.1, .int p.2])
    (fun s => [L.d (lg W R), .d (.tuple (fs.map .int)), .d (.tuple (s.1.map .int)), s.2.1, s.2.2.1, s.2.2.2.1, s.2.2.2.2])
    (fun s p => (endS s.1 p, .d (.int p.2), .d (.int (p.1.a : Int)), .d (.int (p.1.b : Int)), .d (.int p.1.c))) (fun i s => s.1.length = W.length) (xs := R.zip fs) (n := 0) (s := (W, .un, .un, .un, .un)) rfl fun i s p hp hs => by
      have hm : p.1 ∈ R := (List.of_mem_zip (List.mem_of_getElem? hp)).1
      obtain ⟨h1, h2⟩ := hr _ hm
      refine ⟨_, rfl, .inl ?_, by rw [endS_len]; exact hs⟩
      rw [b_ended_of_0]
      simp only [ap_sSeq, ap_sNil, ap_sRet, ap_sRetN, ap_sCt, ap_sBk, ap_sRaise, ap_sExp, ap_sAsg, putL_d, putL_fr, ap_sIf, ap_sFor, ap_sUnp, un1_ok, ap_sPar, par2_nx, ap_sApp, ap_sExt, ext2_fr, ext2_d, ap_onOwn, on1_own, ap_sSto, sto2_int, sto3_some, fz1_d, fz1_un, fz1_own, ap_fzE_nil, ap_fzE, sq_nx, sq_rt, sq_bk, sq_ct, sq_ex, sq_stuck, okb, exb, stb, ap_eC, vr_d, vr_own, ap_eVar, ap_eBin, ap_eUn, ap_aNil, ap_aCons, ap_eFz, fzL_d, fzL_fr, fz_d, fz_fr, rd_d, rd_fr, rd_own, allD_nil, allD_cons, ap_eTup, ap_eLst, ap_eCall, ap_eBi, boolL_d, ap_tVal, ap_tAn, ap_tOr, ap_tNt, ap_tTrue, ap_eIf, ap_eAn, ap_eOr, ap_eNt, ap_eChain, ap_okB, ap_okI, add_i, sub_i, mul_i, lt_i, le_i, gt_i, ge_i, bLen_t, bLen_l, bLen_f, bLen_o, bLen_s, bInt_i, bInt_b, bList_t, bList_l, bList_f, bList_o, bTuple_t, bTuple_l, bTuple_f, bTuple_o, bMax_2, bMin_2, ix1_some, ix_t, ix_l, ix_f, ix_o, ix_s, at_0, at_1, at_2, ap_oNone, o1_i, ap_oSome, ap_eSl, sl_t, sl_l, sl_f, sl_o, itL_t, itL_l, ap_iEx, ap_iEn, ap_iZp, zipL_t, zipL_l, zipL_lt, ap_iR1, ap_iR2, int1_i, ap_gNm, ap_gTp, ap_gAll_nil, ap_gAll, semR_nx, semR_rt, List.getElem?_cons_zero, List.getElem?_cons_succ, List.set_cons_zero, List.set_cons_succ, List.length_cons, List.length_nil, if_true, if_false, Bool.not_true, Bool.not_false, Bool.false_eq_true, List.append_nil, List.nil_append, List.cons_append, reduceIte, isi_ii, isi_ib, isi_bi, isi_bb, isi_tt, isi_tl, isi_ll, isi_lt, isi_ss, and_d, or_d, and_b, or_b, Bool.or_false, Bool.false_or, Bool.or_true, Bool.true_or, Bool.and_true, Bool.true_and, Bool.and_false, Bool.false_and, wipe_nil, wipe_cons, D_nat, D_int, Nat.reduceAdd, Nat.reduceLeDiff, lm_ok, add_t, add_of, add_ff, add_df, add_dd, add_od, add_fd, Int.cast_ofNat_Int, Int.natCast_zero, Int.natCast_one, Nat.zero_add, Nat.zero_le, stoG_own, stoG_dc, stoK_int, ap_sDic, fz1_dc, ixD1_some, ix_dic, ix_dc, ap_eTmp, scal_i, e8' (W := s.1) (i := p.1.a) (v := p.2) (by omega) (by omega), e8' (W := addAt s.1 p.1.a p.2) (i := p.1.b) (v := p.1.c - p.2) (by rw [addAt_len]; omega) (by rw [addAt_len]; omega)]
      rfl
  have lp2 := lp.1
  rw [e_ended_of, f_ended_of]
  simp only [ap_sSeq, ap_sNil, ap_sRet, ap_sRetN, ap_sCt, ap_sBk, ap_sRaise, ap_sExp, ap_sAsg, putL_d, putL_fr, ap_sIf, ap_sFor, ap_sUnp, un1_ok, ap_sPar, par2_nx, ap_sApp, ap_sExt, ext2_fr, ext2_d, ap_onOwn, on1_own, ap_sSto, sto2_int, sto3_some, fz1_d, fz1_un, fz1_own, ap_fzE_nil, ap_fzE, sq_nx, sq_rt, sq_bk, sq_ct, sq_ex, sq_stuck, okb, exb, stb, ap_eC, vr_d, vr_own, ap_eVar, ap_eBin, ap_eUn, ap_aNil, ap_aCons, ap_eFz, fzL_d, fzL_fr, fz_d, fz_fr, rd_d, rd_fr, rd_own, allD_nil, allD_cons, ap_eTup, ap_eLst, ap_eCall, ap_eBi, boolL_d, ap_tVal, ap_tAn, ap_tOr, ap_tNt, ap_tTrue, ap_eIf, ap_eAn, ap_eOr, ap_eNt, ap_eChain, ap_okB, ap_okI, add_i, sub_i, mul_i, lt_i, le_i, gt_i, ge_i, bLen_t, bLen_l, bLen_f, bLen_o, bLen_s, bInt_i, bInt_b, bList_t, bList_l, bList_f, bList_o, bTuple_t, bTuple_l, bTuple_f, bTuple_o, bMax_2, bMin_2, ix1_some, ix_t, ix_l, ix_f, ix_o, ix_s, at_0, at_1, at_2, ap_oNone, o1_i, ap_oSome, ap_eSl, sl_t, sl_l, sl_f, sl_o, itL_t, itL_l, ap_iEx, ap_iEn, ap_iZp, zipL_t, zipL_l, zipL_lt, ap_iR1, ap_iR2, int1_i, ap_gNm, ap_gTp, ap_gAll_nil, ap_gAll, semR_nx, semR_rt, List.getElem?_cons_zero, List.getElem?_cons_succ, List.set_cons_zero, List.set_cons_succ, List.length_cons, List.length_nil, if_true, if_false, Bool.not_true, Bool.not_false, Bool.false_eq_true, List.append_nil, List.nil_append, List.cons_append, reduceIte, isi_ii, isi_ib, isi_bi, isi_bb, isi_tt, isi_tl, isi_ll, isi_lt, isi_ss, and_d, or_d, and_b, or_b, Bool.or_false, Bool.false_or, Bool.or_true, Bool.true_or, Bool.and_true, Bool.true_and, Bool.and_false, Bool.false_and, wipe_nil, wipe_cons, D_nat, D_int, Nat.reduceAdd, Nat.reduceLeDiff, lm_ok, add_t, add_of, add_ff, add_df, add_dd, add_od, add_fd, Int.cast_ofNat_Int, Int.natCast_zero, Int.natCast_one, Nat.zero_add, Nat.zero_le, stoG_own, stoG_dc, stoK_int, ap_sDic, fz1_dc, ixD1_some, ix_dic, ix_dc, ap_eTmp, scal_i, zipD_map, lp2]
  rw [fold_fst _ endS fun s x => rfl]
theorem e10 (h : Ok W R) {fs : List Int} (hl : fs.length = R.length) : s_ended_of [lg W R, .tuple (fs.map .int)] = .ok (.tuple (((R.zip fs).foldl endS W).map .int)) := e10w h.n6 (fun x hx => by obtain ⟨h1, h2, h3, h4⟩ := h.r x hx; omega) hl
theorem e11 {fs : List Int} (h : R.length ≤ 100) (hl : fs.length = R.length) (hf : ∀ p ∈ R.zip fs, 0 ≤ p.2 ∧ p.2 ≤ p.1.c) : s_is_season [lg W R, .tuple (fs.map .int)] = .ok (.bool true) := by
  have k (l2 l3 : L) : q_is_season_0 [L.d (lg W R), L.d (.tuple (fs.map .int)), l2, l3] = .ok (.fr ((R.zip fs).map fun _ => .bool true)) := by
    refine eLc_map (α := Row × Int) (xs := R.zip fs) (fun p => .tuple [Dt.D p.1, .int p.2]) (fun _ => .bool true) (by simp only [ap_sSeq, ap_sNil, ap_sRet, ap_sRetN, ap_sCt, ap_sBk, ap_sRaise, ap_sExp, ap_sAsg, putL_d, putL_fr, ap_sIf, ap_sFor, ap_sUnp, un1_ok, ap_sPar, par2_nx, ap_sApp, ap_sExt, ext2_fr, ext2_d, ap_onOwn, on1_own, ap_sSto, sto2_int, sto3_some, fz1_d, fz1_un, fz1_own, ap_fzE_nil, ap_fzE, sq_nx, sq_rt, sq_bk, sq_ct, sq_ex, sq_stuck, okb, exb, stb, ap_eC, vr_d, vr_own, ap_eVar, ap_eBin, ap_eUn, ap_aNil, ap_aCons, ap_eFz, fzL_d, fzL_fr, fz_d, fz_fr, rd_d, rd_fr, rd_own, allD_nil, allD_cons, ap_eTup, ap_eLst, ap_eCall, ap_eBi, boolL_d, ap_tVal, ap_tAn, ap_tOr, ap_tNt, ap_tTrue, ap_eIf, ap_eAn, ap_eOr, ap_eNt, ap_eChain, ap_okB, ap_okI, add_i, sub_i, mul_i, lt_i, le_i, gt_i, ge_i, bLen_t, bLen_l, bLen_f, bLen_o, bLen_s, bInt_i, bInt_b, bList_t, bList_l, bList_f, bList_o, bTuple_t, bTuple_l, bTuple_f, bTuple_o, bMax_2, bMin_2, ix1_some, ix_t, ix_l, ix_f, ix_o, ix_s, at_0, at_1, at_2, ap_oNone, o1_i, ap_oSome, ap_eSl, sl_t, sl_l, sl_f, sl_o, itL_t, itL_l, ap_iEx, ap_iEn, ap_iZp, zipL_t, zipL_l, zipL_lt, ap_iR1, ap_iR2, int1_i, ap_gNm, ap_gTp, ap_gAll_nil, ap_gAll, semR_nx, semR_rt, List.getElem?_cons_zero, List.getElem?_cons_succ, List.set_cons_zero, List.set_cons_succ, List.length_cons, List.length_nil, if_true, if_false, Bool.not_true, Bool.not_false, Bool.false_eq_true, List.append_nil, List.nil_append, List.cons_append, reduceIte, isi_ii, isi_ib, isi_bi, isi_bb, isi_tt, isi_tl, isi_ll, isi_lt, isi_ss, and_d, or_d, and_b, or_b, Bool.or_false, Bool.false_or, Bool.or_true, Bool.true_or, Bool.and_true, Bool.true_and, Bool.and_false, Bool.false_and, wipe_nil, wipe_cons, D_nat, D_int, Nat.reduceAdd, Nat.reduceLeDiff, lm_ok, add_t, add_of, add_ff, add_df, add_dd, add_od, add_fd, Int.cast_ofNat_Int, Int.natCast_zero, Int.natCast_one, Nat.zero_add, Nat.zero_le, stoG_own, stoG_dc, stoK_int, ap_sDic, fz1_dc, ixD1_some, ix_dic, ix_dc, ap_eTmp, scal_i]) (zipD_map _ _ _ _) (by simp only [cap, List.length_zip]; omega) fun y hx => ⟨_, rfl, ?_⟩
    obtain ⟨a, b⟩ := hf y hx
    simp only [ap_sSeq, ap_sNil, ap_sRet, ap_sRetN, ap_sCt, ap_sBk, ap_sRaise, ap_sExp, ap_sAsg, putL_d, putL_fr, ap_sIf, ap_sFor, ap_sUnp, un1_ok, ap_sPar, par2_nx, ap_sApp, ap_sExt, ext2_fr, ext2_d, ap_onOwn, on1_own, ap_sSto, sto2_int, sto3_some, fz1_d, fz1_un, fz1_own, ap_fzE_nil, ap_fzE, sq_nx, sq_rt, sq_bk, sq_ct, sq_ex, sq_stuck, okb, exb, stb, ap_eC, vr_d, vr_own, ap_eVar, ap_eBin, ap_eUn, ap_aNil, ap_aCons, ap_eFz, fzL_d, fzL_fr, fz_d, fz_fr, rd_d, rd_fr, rd_own, allD_nil, allD_cons, ap_eTup, ap_eLst, ap_eCall, ap_eBi, boolL_d, ap_tVal, ap_tAn, ap_tOr, ap_tNt, ap_tTrue, ap_eIf, ap_eAn, ap_eOr, ap_eNt, ap_eChain, ap_okB, ap_okI, add_i, sub_i, mul_i, lt_i, le_i, gt_i, ge_i, bLen_t, bLen_l, bLen_f, bLen_o, bLen_s, bInt_i, bInt_b, bList_t, bList_l, bList_f, bList_o, bTuple_t, bTuple_l, bTuple_f, bTuple_o, bMax_2, bMin_2, ix1_some, ix_t, ix_l, ix_f, ix_o, ix_s, at_0, at_1, at_2, ap_oNone, o1_i, ap_oSome, ap_eSl, sl_t, sl_l, sl_f, sl_o, itL_t, itL_l, ap_iEx, ap_iEn, ap_iZp, zipL_t, zipL_l, zipL_lt, ap_iR1, ap_iR2, int1_i, ap_gNm, ap_gTp, ap_gAll_nil, ap_gAll, semR_nx, semR_rt, List.getElem?_cons_zero, List.getElem?_cons_succ, List.set_cons_zero, List.set_cons_succ, List.length_cons, List.length_nil, if_true, if_false, Bool.not_true, Bool.not_false, Bool.false_eq_true, List.append_nil, List.nil_append, List.cons_append, reduceIte, isi_ii, isi_ib, isi_bi, isi_bb, isi_tt, isi_tl, isi_ll, isi_lt, isi_ss, and_d, or_d, and_b, or_b, Bool.or_false, Bool.false_or, Bool.or_true, Bool.true_or, Bool.and_true, Bool.true_and, Bool.and_false, Bool.false_and, wipe_nil, wipe_cons, D_nat, D_int, Nat.reduceAdd, Nat.reduceLeDiff, lm_ok, add_t, add_of, add_ff, add_df, add_dd, add_od, add_fd, Int.cast_ofNat_Int, Int.natCast_zero, Int.natCast_one, Nat.zero_add, Nat.zero_le, stoG_own, stoG_dc, stoK_int, ap_sDic, fz1_dc, ixD1_some, ix_dic, ix_dc, ap_eTmp, scal_i, Dr, e1t a b]
  have z : opEq true (.d (.int (fs.length : Int))) (.d (.int (R.length : Int))) = .ok (.d (.bool false)) := by
    rw [ne_D (α := Int) (a := fs.length) (b := R.length) (by decide) rfl rfl, decide_eq_true (by rw [hl])]
    rfl
  rw [e_is_season, f_is_season]
  simp only [ap_sSeq, ap_sNil, ap_sRet, ap_sRetN, ap_sCt, ap_sBk, ap_sRaise, ap_sExp, ap_sAsg, putL_d, putL_fr, ap_sIf, ap_sFor, ap_sUnp, un1_ok, ap_sPar, par2_nx, ap_sApp, ap_sExt, ext2_fr, ext2_d, ap_onOwn, on1_own, ap_sSto, sto2_int, sto3_some, fz1_d, fz1_un, fz1_own, ap_fzE_nil, ap_fzE, sq_nx, sq_rt, sq_bk, sq_ct, sq_ex, sq_stuck, okb, exb, stb, ap_eC, vr_d, vr_own, ap_eVar, ap_eBin, ap_eUn, ap_aNil, ap_aCons, ap_eFz, fzL_d, fzL_fr, fz_d, fz_fr, rd_d, rd_fr, rd_own, allD_nil, allD_cons, ap_eTup, ap_eLst, ap_eCall, ap_eBi, boolL_d, ap_tVal, ap_tAn, ap_tOr, ap_tNt, ap_tTrue, ap_eIf, ap_eAn, ap_eOr, ap_eNt, ap_eChain, ap_okB, ap_okI, add_i, sub_i, mul_i, lt_i, le_i, gt_i, ge_i, bLen_t, bLen_l, bLen_f, bLen_o, bLen_s, bInt_i, bInt_b, bList_t, bList_l, bList_f, bList_o, bTuple_t, bTuple_l, bTuple_f, bTuple_o, bMax_2, bMin_2, ix1_some, ix_t, ix_l, ix_f, ix_o, ix_s, at_0, at_1, at_2, ap_oNone, o1_i, ap_oSome, ap_eSl, sl_t, sl_l, sl_f, sl_o, itL_t, itL_l, ap_iEx, ap_iEn, ap_iZp, zipL_t, zipL_l, zipL_lt, ap_iR1, ap_iR2, int1_i, ap_gNm, ap_gTp, ap_gAll_nil, ap_gAll, semR_nx, semR_rt, List.getElem?_cons_zero, List.getElem?_cons_succ, List.set_cons_zero, List.set_cons_succ, List.length_cons, List.length_nil, if_true, if_false, Bool.not_true, Bool.not_false, Bool.false_eq_true, List.append_nil, List.nil_append, List.cons_append, reduceIte, isi_ii, isi_ib, isi_bi, isi_bb, isi_tt, isi_tl, isi_ll, isi_lt, isi_ss, and_d, or_d, and_b, or_b, Bool.or_false, Bool.false_or, Bool.or_true, Bool.true_or, Bool.and_true, Bool.true_and, Bool.and_false, Bool.false_and, wipe_nil, wipe_cons, D_nat, D_int, Nat.reduceAdd, Nat.reduceLeDiff, lm_ok, add_t, add_of, add_ff, add_df, add_dd, add_od, add_fd, Int.cast_ofNat_Int, Int.natCast_zero, Int.natCast_one, Nat.zero_add, Nat.zero_le, stoG_own, stoG_dc, stoK_int, ap_sDic, fz1_dc, ixD1_some, ix_dic, ix_dc, ap_eTmp, scal_i, List.length_map, z, k, bAll_p, all_T]
theorem e12 (h : Ok W R) {fs : List Int} (hl : fs.length = R.length) (hf : ∀ p ∈ R.zip fs, 0 ≤ p.2 ∧ p.2 ≤ p.1.c) : s_ended [lg W R, .tuple (fs.map .int)] = .ok (.tuple (((R.zip fs).foldl endS W).map .int)) := by
  rw [e_ended, f_ended]
  simp only [ap_sSeq, ap_sNil, ap_sRet, ap_sRetN, ap_sCt, ap_sBk, ap_sRaise, ap_sExp, ap_sAsg, putL_d, putL_fr, ap_sIf, ap_sFor, ap_sUnp, un1_ok, ap_sPar, par2_nx, ap_sApp, ap_sExt, ext2_fr, ext2_d, ap_onOwn, on1_own, ap_sSto, sto2_int, sto3_some, fz1_d, fz1_un, fz1_own, ap_fzE_nil, ap_fzE, sq_nx, sq_rt, sq_bk, sq_ct, sq_ex, sq_stuck, okb, exb, stb, ap_eC, vr_d, vr_own, ap_eVar, ap_eBin, ap_eUn, ap_aNil, ap_aCons, ap_eFz, fzL_d, fzL_fr, fz_d, fz_fr, rd_d, rd_fr, rd_own, allD_nil, allD_cons, ap_eTup, ap_eLst, ap_eCall, ap_eBi, boolL_d, ap_tVal, ap_tAn, ap_tOr, ap_tNt, ap_tTrue, ap_eIf, ap_eAn, ap_eOr, ap_eNt, ap_eChain, ap_okB, ap_okI, add_i, sub_i, mul_i, lt_i, le_i, gt_i, ge_i, bLen_t, bLen_l, bLen_f, bLen_o, bLen_s, bInt_i, bInt_b, bList_t, bList_l, bList_f, bList_o, bTuple_t, bTuple_l, bTuple_f, bTuple_o, bMax_2, bMin_2, ix1_some, ix_t, ix_l, ix_f, ix_o, ix_s, at_0, at_1, at_2, ap_oNone, o1_i, ap_oSome, ap_eSl, sl_t, sl_l, sl_f, sl_o, itL_t, itL_l, ap_iEx, ap_iEn, ap_iZp, zipL_t, zipL_l, zipL_lt, ap_iR1, ap_iR2, int1_i, ap_gNm, ap_gTp, ap_gAll_nil, ap_gAll, semR_nx, semR_rt, List.getElem?_cons_zero, List.getElem?_cons_succ, List.set_cons_zero, List.set_cons_succ, List.length_cons, List.length_nil, if_true, if_false, Bool.not_true, Bool.not_false, Bool.false_eq_true, List.append_nil, List.nil_append, List.cons_append, reduceIte, isi_ii, isi_ib, isi_bi, isi_bb, isi_tt, isi_tl, isi_ll, isi_lt, isi_ss, and_d, or_d, and_b, or_b, Bool.or_false, Bool.false_or, Bool.or_true, Bool.true_or, Bool.and_true, Bool.true_and, Bool.and_false, Bool.false_and, wipe_nil, wipe_cons, D_nat, D_int, Nat.reduceAdd, Nat.reduceLeDiff, lm_ok, add_t, add_of, add_ff, add_df, add_dd, add_od, add_fd, Int.cast_ofNat_Int, Int.natCast_zero, Int.natCast_one, Nat.zero_add, Nat.zero_le, stoG_own, stoG_dc, stoK_int, ap_sDic, fz1_dc, ixD1_some, ix_dic, ix_dc, ap_eTmp, scal_i, e4 h, e11 h.l hl hf, e10 h hl]
/-! the law's own -/
theorem map_set (W : List Int) (i : Nat) (v : Int) : (W.map PyData.int).set i (.int v) = (W.set i v).map .int := List.map_set.symm
theorem at_W {i : Nat} (h : i < W.length) : atI (W.map PyData.int) (i : Int) = some (.int (W.getD i 0)) := at_nat (by rw [List.getElem?_map, getD_some h]; rfl)
theorem e20 (h : Ok W R) {fs : List Int} : s__law_ended [lg W R, .tuple (fs.map .int)] = .ok (.tuple (((R.zip fs).foldl endS W).map .int)) := by
  have lp := forGo_T (α := Row × Int) (σ := Est) (g := gTp [(gTp [(gNm 4), (gNm 5), (gNm 6)]), (gNm 3)]) (body := b__law_ended_0) (fun p => .tuple [Dt.D p.1, .int p.2])
    (fun s => [L.d (lg W R), .d (.tuple (fs.map .int)), .own (s.1.map .int), s.2.1, s.2.2.1, s.2.2.2.1, s.2.2.2.2])
    (fun s p => (endS s.1 p, .d (.int p.2), .d (.int (p.1.a : Int)), .d (.int (p.1.b : Int)), .d (.int p.1.c))) (fun i s => s.1.length = W.length) (xs := R.zip fs) (n := 0) (s := (W, .un, .un, .un, .un)) rfl fun i s p hp hs => by
      have hm : p.1 ∈ R := (List.of_mem_zip (List.mem_of_getElem? hp)).1
      obtain ⟨h1, h2, h3, h4⟩ := h.r _ hm
      refine ⟨_, rfl, .inl ?_, by rw [endS_len]; exact hs⟩
      have a1 : p.1.a < s.1.length := by omega
      have a2 : p.1.b < (s.1.set p.1.a (s.1.getD p.1.a 0 + p.2)).length := by rw [List.length_set]; omega
      rw [b__law_ended_0]
      simp only [ap_sSeq, ap_sNil, ap_sRet, ap_sRetN, ap_sCt, ap_sBk, ap_sRaise, ap_sExp, ap_sAsg, putL_d, putL_fr, ap_sIf, ap_sFor, ap_sUnp, un1_ok, ap_sPar, par2_nx, ap_sApp, ap_sExt, ext2_fr, ext2_d, ap_onOwn, on1_own, ap_sSto, sto2_int, sto3_some, fz1_d, fz1_un, fz1_own, ap_fzE_nil, ap_fzE, sq_nx, sq_rt, sq_bk, sq_ct, sq_ex, sq_stuck, okb, exb, stb, ap_eC, vr_d, vr_own, ap_eVar, ap_eBin, ap_eUn, ap_aNil, ap_aCons, ap_eFz, fzL_d, fzL_fr, fz_d, fz_fr, rd_d, rd_fr, rd_own, allD_nil, allD_cons, ap_eTup, ap_eLst, ap_eCall, ap_eBi, boolL_d, ap_tVal, ap_tAn, ap_tOr, ap_tNt, ap_tTrue, ap_eIf, ap_eAn, ap_eOr, ap_eNt, ap_eChain, ap_okB, ap_okI, add_i, sub_i, mul_i, lt_i, le_i, gt_i, ge_i, bLen_t, bLen_l, bLen_f, bLen_o, bLen_s, bInt_i, bInt_b, bList_t, bList_l, bList_f, bList_o, bTuple_t, bTuple_l, bTuple_f, bTuple_o, bMax_2, bMin_2, ix1_some, ix_t, ix_l, ix_f, ix_o, ix_s, at_0, at_1, at_2, ap_oNone, o1_i, ap_oSome, ap_eSl, sl_t, sl_l, sl_f, sl_o, itL_t, itL_l, ap_iEx, ap_iEn, ap_iZp, zipL_t, zipL_l, zipL_lt, ap_iR1, ap_iR2, int1_i, ap_gNm, ap_gTp, ap_gAll_nil, ap_gAll, semR_nx, semR_rt, List.getElem?_cons_zero, List.getElem?_cons_succ, List.set_cons_zero, List.set_cons_succ, List.length_cons, List.length_nil, if_true, if_false, Bool.not_true, Bool.not_false, Bool.false_eq_true, List.append_nil, List.nil_append, List.cons_append, reduceIte, isi_ii, isi_ib, isi_bi, isi_bb, isi_tt, isi_tl, isi_ll, isi_lt, isi_ss, and_d, or_d, and_b, or_b, Bool.or_false, Bool.false_or, Bool.or_true, Bool.true_or, Bool.and_true, Bool.true_and, Bool.and_false, Bool.false_and, wipe_nil, wipe_cons, D_nat, D_int, Nat.reduceAdd, Nat.reduceLeDiff, lm_ok, add_t, add_of, add_ff, add_df, add_dd, add_od, add_fd, Int.cast_ofNat_Int, Int.natCast_zero, Int.natCast_one, Nat.zero_add, Nat.zero_le, stoG_own, stoG_dc, stoK_int, ap_sDic, fz1_dc, ixD1_some, ix_dic, ix_dc, ap_eTmp, scal_i, at_W a1, List.length_map, ixN_nat a1, map_set, at_W a2, ixN_nat a2, Int.add_sub_assoc]
      rfl
  have lp2 := lp.1
  rw [e__law_ended, f__law_ended]
  simp only [ap_sSeq, ap_sNil, ap_sRet, ap_sRetN, ap_sCt, ap_sBk, ap_sRaise, ap_sExp, ap_sAsg, putL_d, putL_fr, ap_sIf, ap_sFor, ap_sUnp, un1_ok, ap_sPar, par2_nx, ap_sApp, ap_sExt, ext2_fr, ext2_d, ap_onOwn, on1_own, ap_sSto, sto2_int, sto3_some, fz1_d, fz1_un, fz1_own, ap_fzE_nil, ap_fzE, sq_nx, sq_rt, sq_bk, sq_ct, sq_ex, sq_stuck, okb, exb, stb, ap_eC, vr_d, vr_own, ap_eVar, ap_eBin, ap_eUn, ap_aNil, ap_aCons, ap_eFz, fzL_d, fzL_fr, fz_d, fz_fr, rd_d, rd_fr, rd_own, allD_nil, allD_cons, ap_eTup, ap_eLst, ap_eCall, ap_eBi, boolL_d, ap_tVal, ap_tAn, ap_tOr, ap_tNt, ap_tTrue, ap_eIf, ap_eAn, ap_eOr, ap_eNt, ap_eChain, ap_okB, ap_okI, add_i, sub_i, mul_i, lt_i, le_i, gt_i, ge_i, bLen_t, bLen_l, bLen_f, bLen_o, bLen_s, bInt_i, bInt_b, bList_t, bList_l, bList_f, bList_o, bTuple_t, bTuple_l, bTuple_f, bTuple_o, bMax_2, bMin_2, ix1_some, ix_t, ix_l, ix_f, ix_o, ix_s, at_0, at_1, at_2, ap_oNone, o1_i, ap_oSome, ap_eSl, sl_t, sl_l, sl_f, sl_o, itL_t, itL_l, ap_iEx, ap_iEn, ap_iZp, zipL_t, zipL_l, zipL_lt, ap_iR1, ap_iR2, int1_i, ap_gNm, ap_gTp, ap_gAll_nil, ap_gAll, semR_nx, semR_rt, List.getElem?_cons_zero, List.getElem?_cons_succ, List.set_cons_zero, List.set_cons_succ, List.length_cons, List.length_nil, if_true, if_false, Bool.not_true, Bool.not_false, Bool.false_eq_true, List.append_nil, List.nil_append, List.cons_append, reduceIte, isi_ii, isi_ib, isi_bi, isi_bb, isi_tt, isi_tl, isi_ll, isi_lt, isi_ss, and_d, or_d, and_b, or_b, Bool.or_false, Bool.false_or, Bool.or_true, Bool.true_or, Bool.and_true, Bool.true_and, Bool.and_false, Bool.false_and, wipe_nil, wipe_cons, D_nat, D_int, Nat.reduceAdd, Nat.reduceLeDiff, lm_ok, add_t, add_of, add_ff, add_df, add_dd, add_od, add_fd, Int.cast_ofNat_Int, Int.natCast_zero, Int.natCast_one, Nat.zero_add, Nat.zero_le, stoG_own, stoG_dc, stoK_int, ap_sDic, fz1_dc, ixD1_some, ix_dic, ix_dc, ap_eTmp, scal_i, zipD_map, lp2]
  rw [fold_fst _ endS fun s x => rfl]
theorem e21 {i : Nat} (h : i < W.length) (hl : W.length ≤ 100) : s__law_place [.tuple (W.map .int), .int (i : Int)] = .ok (.int (1 + ((W.filter fun x => decide (W.getD i 0 < x)).length : Int))) := by
  have k (l2 : L) : q__law_place_0 [L.d (.tuple (W.map .int)), L.d (.int (i : Int)), l2] = .ok (.fr ((W.filter fun x => decide (W.getD i 0 < x)).map .int)) := by
    refine eLc_filter (α := Int) (xs := W) .int (fun x => decide (W.getD i 0 < x)) .int (by simp only [ap_sSeq, ap_sNil, ap_sRet, ap_sRetN, ap_sCt, ap_sBk, ap_sRaise, ap_sExp, ap_sAsg, putL_d, putL_fr, ap_sIf, ap_sFor, ap_sUnp, un1_ok, ap_sPar, par2_nx, ap_sApp, ap_sExt, ext2_fr, ext2_d, ap_onOwn, on1_own, ap_sSto, sto2_int, sto3_some, fz1_d, fz1_un, fz1_own, ap_fzE_nil, ap_fzE, sq_nx, sq_rt, sq_bk, sq_ct, sq_ex, sq_stuck, okb, exb, stb, ap_eC, vr_d, vr_own, ap_eVar, ap_eBin, ap_eUn, ap_aNil, ap_aCons, ap_eFz, fzL_d, fzL_fr, fz_d, fz_fr, rd_d, rd_fr, rd_own, allD_nil, allD_cons, ap_eTup, ap_eLst, ap_eCall, ap_eBi, boolL_d, ap_tVal, ap_tAn, ap_tOr, ap_tNt, ap_tTrue, ap_eIf, ap_eAn, ap_eOr, ap_eNt, ap_eChain, ap_okB, ap_okI, add_i, sub_i, mul_i, lt_i, le_i, gt_i, ge_i, bLen_t, bLen_l, bLen_f, bLen_o, bLen_s, bInt_i, bInt_b, bList_t, bList_l, bList_f, bList_o, bTuple_t, bTuple_l, bTuple_f, bTuple_o, bMax_2, bMin_2, ix1_some, ix_t, ix_l, ix_f, ix_o, ix_s, at_0, at_1, at_2, ap_oNone, o1_i, ap_oSome, ap_eSl, sl_t, sl_l, sl_f, sl_o, itL_t, itL_l, ap_iEx, ap_iEn, ap_iZp, zipL_t, zipL_l, zipL_lt, ap_iR1, ap_iR2, int1_i, ap_gNm, ap_gTp, ap_gAll_nil, ap_gAll, semR_nx, semR_rt, List.getElem?_cons_zero, List.getElem?_cons_succ, List.set_cons_zero, List.set_cons_succ, List.length_cons, List.length_nil, if_true, if_false, Bool.not_true, Bool.not_false, Bool.false_eq_true, List.append_nil, List.nil_append, List.cons_append, reduceIte, isi_ii, isi_ib, isi_bi, isi_bb, isi_tt, isi_tl, isi_ll, isi_lt, isi_ss, and_d, or_d, and_b, or_b, Bool.or_false, Bool.false_or, Bool.or_true, Bool.true_or, Bool.and_true, Bool.true_and, Bool.and_false, Bool.false_and, wipe_nil, wipe_cons, D_nat, D_int, Nat.reduceAdd, Nat.reduceLeDiff, lm_ok, add_t, add_of, add_ff, add_df, add_dd, add_od, add_fd, Int.cast_ofNat_Int, Int.natCast_zero, Int.natCast_one, Nat.zero_add, Nat.zero_le, stoG_own, stoG_dc, stoK_int, ap_sDic, fz1_dc, ixD1_some, ix_dic, ix_dc, ap_eTmp, scal_i]) rfl (by simp only [cap]; omega) fun y hx => ⟨_, rfl, ?_, fun _ => ?_⟩
    · simp only [ap_sSeq, ap_sNil, ap_sRet, ap_sRetN, ap_sCt, ap_sBk, ap_sRaise, ap_sExp, ap_sAsg, putL_d, putL_fr, ap_sIf, ap_sFor, ap_sUnp, un1_ok, ap_sPar, par2_nx, ap_sApp, ap_sExt, ext2_fr, ext2_d, ap_onOwn, on1_own, ap_sSto, sto2_int, sto3_some, fz1_d, fz1_un, fz1_own, ap_fzE_nil, ap_fzE, sq_nx, sq_rt, sq_bk, sq_ct, sq_ex, sq_stuck, okb, exb, stb, ap_eC, vr_d, vr_own, ap_eVar, ap_eBin, ap_eUn, ap_aNil, ap_aCons, ap_eFz, fzL_d, fzL_fr, fz_d, fz_fr, rd_d, rd_fr, rd_own, allD_nil, allD_cons, ap_eTup, ap_eLst, ap_eCall, ap_eBi, boolL_d, ap_tVal, ap_tAn, ap_tOr, ap_tNt, ap_tTrue, ap_eIf, ap_eAn, ap_eOr, ap_eNt, ap_eChain, ap_okB, ap_okI, add_i, sub_i, mul_i, lt_i, le_i, gt_i, ge_i, bLen_t, bLen_l, bLen_f, bLen_o, bLen_s, bInt_i, bInt_b, bList_t, bList_l, bList_f, bList_o, bTuple_t, bTuple_l, bTuple_f, bTuple_o, bMax_2, bMin_2, ix1_some, ix_t, ix_l, ix_f, ix_o, ix_s, at_0, at_1, at_2, ap_oNone, o1_i, ap_oSome, ap_eSl, sl_t, sl_l, sl_f, sl_o, itL_t, itL_l, ap_iEx, ap_iEn, ap_iZp, zipL_t, zipL_l, zipL_lt, ap_iR1, ap_iR2, int1_i, ap_gNm, ap_gTp, ap_gAll_nil, ap_gAll, semR_nx, semR_rt, List.getElem?_cons_zero, List.getElem?_cons_succ, List.set_cons_zero, List.set_cons_succ, List.length_cons, List.length_nil, if_true, if_false, Bool.not_true, Bool.not_false, Bool.false_eq_true, List.append_nil, List.nil_append, List.cons_append, reduceIte, isi_ii, isi_ib, isi_bi, isi_bb, isi_tt, isi_tl, isi_ll, isi_lt, isi_ss, and_d, or_d, and_b, or_b, Bool.or_false, Bool.false_or, Bool.or_true, Bool.true_or, Bool.and_true, Bool.true_and, Bool.and_false, Bool.false_and, wipe_nil, wipe_cons, D_nat, D_int, Nat.reduceAdd, Nat.reduceLeDiff, lm_ok, add_t, add_of, add_ff, add_df, add_dd, add_od, add_fd, Int.cast_ofNat_Int, Int.natCast_zero, Int.natCast_one, Nat.zero_add, Nat.zero_le, stoG_own, stoG_dc, stoK_int, ap_sDic, fz1_dc, ixD1_some, ix_dic, ix_dc, ap_eTmp, scal_i, at_W h]
    · simp only [ap_sSeq, ap_sNil, ap_sRet, ap_sRetN, ap_sCt, ap_sBk, ap_sRaise, ap_sExp, ap_sAsg, putL_d, putL_fr, ap_sIf, ap_sFor, ap_sUnp, un1_ok, ap_sPar, par2_nx, ap_sApp, ap_sExt, ext2_fr, ext2_d, ap_onOwn, on1_own, ap_sSto, sto2_int, sto3_some, fz1_d, fz1_un, fz1_own, ap_fzE_nil, ap_fzE, sq_nx, sq_rt, sq_bk, sq_ct, sq_ex, sq_stuck, okb, exb, stb, ap_eC, vr_d, vr_own, ap_eVar, ap_eBin, ap_eUn, ap_aNil, ap_aCons, ap_eFz, fzL_d, fzL_fr, fz_d, fz_fr, rd_d, rd_fr, rd_own, allD_nil, allD_cons, ap_eTup, ap_eLst, ap_eCall, ap_eBi, boolL_d, ap_tVal, ap_tAn, ap_tOr, ap_tNt, ap_tTrue, ap_eIf, ap_eAn, ap_eOr, ap_eNt, ap_eChain, ap_okB, ap_okI, add_i, sub_i, mul_i, lt_i, le_i, gt_i, ge_i, bLen_t, bLen_l, bLen_f, bLen_o, bLen_s, bInt_i, bInt_b, bList_t, bList_l, bList_f, bList_o, bTuple_t, bTuple_l, bTuple_f, bTuple_o, bMax_2, bMin_2, ix1_some, ix_t, ix_l, ix_f, ix_o, ix_s, at_0, at_1, at_2, ap_oNone, o1_i, ap_oSome, ap_eSl, sl_t, sl_l, sl_f, sl_o, itL_t, itL_l, ap_iEx, ap_iEn, ap_iZp, zipL_t, zipL_l, zipL_lt, ap_iR1, ap_iR2, int1_i, ap_gNm, ap_gTp, ap_gAll_nil, ap_gAll, semR_nx, semR_rt, List.getElem?_cons_zero, List.getElem?_cons_succ, List.set_cons_zero, List.set_cons_succ, List.length_cons, List.length_nil, if_true, if_false, Bool.not_true, Bool.not_false, Bool.false_eq_true, List.append_nil, List.nil_append, List.cons_append, reduceIte, isi_ii, isi_ib, isi_bi, isi_bb, isi_tt, isi_tl, isi_ll, isi_lt, isi_ss, and_d, or_d, and_b, or_b, Bool.or_false, Bool.false_or, Bool.or_true, Bool.true_or, Bool.and_true, Bool.true_and, Bool.and_false, Bool.false_and, wipe_nil, wipe_cons, D_nat, D_int, Nat.reduceAdd, Nat.reduceLeDiff, lm_ok, add_t, add_of, add_ff, add_df, add_dd, add_od, add_fd, Int.cast_ofNat_Int, Int.natCast_zero, Int.natCast_one, Nat.zero_add, Nat.zero_le, stoG_own, stoG_dc, stoK_int, ap_sDic, fz1_dc, ixD1_some, ix_dic, ix_dc, ap_eTmp, scal_i]
  rw [e__law_place, f__law_place]
  simp only [ap_sSeq, ap_sNil, ap_sRet, ap_sRetN, ap_sCt, ap_sBk, ap_sRaise, ap_sExp, ap_sAsg, putL_d, putL_fr, ap_sIf, ap_sFor, ap_sUnp, un1_ok, ap_sPar, par2_nx, ap_sApp, ap_sExt, ext2_fr, ext2_d, ap_onOwn, on1_own, ap_sSto, sto2_int, sto3_some, fz1_d, fz1_un, fz1_own, ap_fzE_nil, ap_fzE, sq_nx, sq_rt, sq_bk, sq_ct, sq_ex, sq_stuck, okb, exb, stb, ap_eC, vr_d, vr_own, ap_eVar, ap_eBin, ap_eUn, ap_aNil, ap_aCons, ap_eFz, fzL_d, fzL_fr, fz_d, fz_fr, rd_d, rd_fr, rd_own, allD_nil, allD_cons, ap_eTup, ap_eLst, ap_eCall, ap_eBi, boolL_d, ap_tVal, ap_tAn, ap_tOr, ap_tNt, ap_tTrue, ap_eIf, ap_eAn, ap_eOr, ap_eNt, ap_eChain, ap_okB, ap_okI, add_i, sub_i, mul_i, lt_i, le_i, gt_i, ge_i, bLen_t, bLen_l, bLen_f, bLen_o, bLen_s, bInt_i, bInt_b, bList_t, bList_l, bList_f, bList_o, bTuple_t, bTuple_l, bTuple_f, bTuple_o, bMax_2, bMin_2, ix1_some, ix_t, ix_l, ix_f, ix_o, ix_s, at_0, at_1, at_2, ap_oNone, o1_i, ap_oSome, ap_eSl, sl_t, sl_l, sl_f, sl_o, itL_t, itL_l, ap_iEx, ap_iEn, ap_iZp, zipL_t, zipL_l, zipL_lt, ap_iR1, ap_iR2, int1_i, ap_gNm, ap_gTp, ap_gAll_nil, ap_gAll, semR_nx, semR_rt, List.getElem?_cons_zero, List.getElem?_cons_succ, List.set_cons_zero, List.set_cons_succ, List.length_cons, List.length_nil, if_true, if_false, Bool.not_true, Bool.not_false, Bool.false_eq_true, List.append_nil, List.nil_append, List.cons_append, reduceIte, isi_ii, isi_ib, isi_bi, isi_bb, isi_tt, isi_tl, isi_ll, isi_lt, isi_ss, and_d, or_d, and_b, or_b, Bool.or_false, Bool.false_or, Bool.or_true, Bool.true_or, Bool.and_true, Bool.true_and, Bool.and_false, Bool.false_and, wipe_nil, wipe_cons, D_nat, D_int, Nat.reduceAdd, Nat.reduceLeDiff, lm_ok, add_t, add_of, add_ff, add_df, add_dd, add_od, add_fd, Int.cast_ofNat_Int, Int.natCast_zero, Int.natCast_one, Nat.zero_add, Nat.zero_le, stoG_own, stoG_dc, stoK_int, ap_sDic, fz1_dc, ixD1_some, ix_dic, ix_dc, ap_eTmp, scal_i, k, List.length_map]
def updR (R : List Row) (p : Nat × Nat) : List Row := R.map fun x => ⟨x.a, x.b, x.c - hit x p⟩
theorem updR_filter (p : Nat × Nat) : ∀ R : List Row, (updR R p).filter (fun x => decide (0 < x.c)) = playR R p
  | [] => rfl
  | x :: R => by
    have ih := updR_filter p R
    unfold updR playR at ih ⊢
    rw [List.map_cons, List.filterMap_cons]
    by_cases q : 0 < x.c - hit x p
    · simp only [List.filter_cons, decide_eq_true q, if_true, if_pos q, ih]
    · simp only [List.filter_cons, decide_eq_false q, Bool.false_eq_true, if_false, if_neg q, ih]
theorem e22 (h : Ok W R) (hw : w < W.length) : s__law_played [lg W R, .int (w : Int), .int (l : Int)] = .ok (lg (addAt W w 1) (playR R (pr w l))) := by
  have hp : (if (l : Int) < (w : Int) then (l : Int) else (w : Int)) = ((pr w l).1 : Nat) := by
    show _ = ((min w l : Nat) : Int)
    split <;> omega
  have hq : (if (l : Int) > (w : Int) then (l : Int) else (w : Int)) = ((pr w l).2 : Nat) := by
    show _ = ((max w l : Nat) : Int)
    split <;> omega
  generalize hpr : pr w l = p at hp hq
  have k0 (l1 l2 l3 l5 l6 l7 l8 l9 : L) : q__law_played_0 [L.d (lg W R), l1, l2, l3, .d (.tuple [.int (p.1 : Int), .int (p.2 : Int)]), l5, l6, l7, l8, l9] = .ok (.fr ((updR R p).map Dt.D)) := by
    unfold updR
    rw [List.map_map]
    refine eLc_map (α := Row) (xs := R) Dt.D _ (by simp only [ap_sSeq, ap_sNil, ap_sRet, ap_sRetN, ap_sCt, ap_sBk, ap_sRaise, ap_sExp, ap_sAsg, putL_d, putL_fr, ap_sIf, ap_sFor, ap_sUnp, un1_ok, ap_sPar, par2_nx, ap_sApp, ap_sExt, ext2_fr, ext2_d, ap_onOwn, on1_own, ap_sSto, sto2_int, sto3_some, fz1_d, fz1_un, fz1_own, ap_fzE_nil, ap_fzE, sq_nx, sq_rt, sq_bk, sq_ct, sq_ex, sq_stuck, okb, exb, stb, ap_eC, vr_d, vr_own, ap_eVar, ap_eBin, ap_eUn, ap_aNil, ap_aCons, ap_eFz, fzL_d, fzL_fr, fz_d, fz_fr, rd_d, rd_fr, rd_own, allD_nil, allD_cons, ap_eTup, ap_eLst, ap_eCall, ap_eBi, boolL_d, ap_tVal, ap_tAn, ap_tOr, ap_tNt, ap_tTrue, ap_eIf, ap_eAn, ap_eOr, ap_eNt, ap_eChain, ap_okB, ap_okI, add_i, sub_i, mul_i, lt_i, le_i, gt_i, ge_i, bLen_t, bLen_l, bLen_f, bLen_o, bLen_s, bInt_i, bInt_b, bList_t, bList_l, bList_f, bList_o, bTuple_t, bTuple_l, bTuple_f, bTuple_o, bMax_2, bMin_2, ix1_some, ix_t, ix_l, ix_f, ix_o, ix_s, at_0, at_1, at_2, ap_oNone, o1_i, ap_oSome, ap_eSl, sl_t, sl_l, sl_f, sl_o, itL_t, itL_l, ap_iEx, ap_iEn, ap_iZp, zipL_t, zipL_l, zipL_lt, ap_iR1, ap_iR2, int1_i, ap_gNm, ap_gTp, ap_gAll_nil, ap_gAll, semR_nx, semR_rt, List.getElem?_cons_zero, List.getElem?_cons_succ, List.set_cons_zero, List.set_cons_succ, List.length_cons, List.length_nil, if_true, if_false, Bool.not_true, Bool.not_false, Bool.false_eq_true, List.append_nil, List.nil_append, List.cons_append, reduceIte, isi_ii, isi_ib, isi_bi, isi_bb, isi_tt, isi_tl, isi_ll, isi_lt, isi_ss, and_d, or_d, and_b, or_b, Bool.or_false, Bool.false_or, Bool.or_true, Bool.true_or, Bool.and_true, Bool.true_and, Bool.and_false, Bool.false_and, wipe_nil, wipe_cons, D_nat, D_int, Nat.reduceAdd, Nat.reduceLeDiff, lm_ok, add_t, add_of, add_ff, add_df, add_dd, add_od, add_fd, Int.cast_ofNat_Int, Int.natCast_zero, Int.natCast_one, Nat.zero_add, Nat.zero_le, stoG_own, stoG_dc, stoK_int, ap_sDic, fz1_dc, ixD1_some, ix_dic, ix_dc, ap_eTmp, scal_i]) rfl (by have := h.l; simp only [cap]; omega) fun x hx => ⟨_, rfl, ?_⟩
    have e3 : opEq false (.d (.tuple [.int (x.a : Int), .int (x.b : Int)])) (.d (.tuple [.int (p.1 : Int), .int (p.2 : Int)])) = .ok (.d (.bool (decide ((x.a, x.b) = p)))) := eq_pair _ _ _ _
    have e4 : (if decide ((x.a, x.b) = p) = true then (1 : Int) else 0) = hit x p := by
      unfold hit
      by_cases q : (x.a, x.b) = p
      · rw [if_pos q, decide_eq_true q, if_pos rfl]
      · rw [if_neg q, decide_eq_false q, if_neg (by decide)]
    simp only [ap_sSeq, ap_sNil, ap_sRet, ap_sRetN, ap_sCt, ap_sBk, ap_sRaise, ap_sExp, ap_sAsg, putL_d, putL_fr, ap_sIf, ap_sFor, ap_sUnp, un1_ok, ap_sPar, par2_nx, ap_sApp, ap_sExt, ext2_fr, ext2_d, ap_onOwn, on1_own, ap_sSto, sto2_int, sto3_some, fz1_d, fz1_un, fz1_own, ap_fzE_nil, ap_fzE, sq_nx, sq_rt, sq_bk, sq_ct, sq_ex, sq_stuck, okb, exb, stb, ap_eC, vr_d, vr_own, ap_eVar, ap_eBin, ap_eUn, ap_aNil, ap_aCons, ap_eFz, fzL_d, fzL_fr, fz_d, fz_fr, rd_d, rd_fr, rd_own, allD_nil, allD_cons, ap_eTup, ap_eLst, ap_eCall, ap_eBi, boolL_d, ap_tVal, ap_tAn, ap_tOr, ap_tNt, ap_tTrue, ap_eIf, ap_eAn, ap_eOr, ap_eNt, ap_eChain, ap_okB, ap_okI, add_i, sub_i, mul_i, lt_i, le_i, gt_i, ge_i, bLen_t, bLen_l, bLen_f, bLen_o, bLen_s, bInt_i, bInt_b, bList_t, bList_l, bList_f, bList_o, bTuple_t, bTuple_l, bTuple_f, bTuple_o, bMax_2, bMin_2, ix1_some, ix_t, ix_l, ix_f, ix_o, ix_s, at_0, at_1, at_2, ap_oNone, o1_i, ap_oSome, ap_eSl, sl_t, sl_l, sl_f, sl_o, itL_t, itL_l, ap_iEx, ap_iEn, ap_iZp, zipL_t, zipL_l, zipL_lt, ap_iR1, ap_iR2, int1_i, ap_gNm, ap_gTp, ap_gAll_nil, ap_gAll, semR_nx, semR_rt, List.getElem?_cons_zero, List.getElem?_cons_succ, List.set_cons_zero, List.set_cons_succ, List.length_cons, List.length_nil, if_true, if_false, Bool.not_true, Bool.not_false, Bool.false_eq_true, List.append_nil, List.nil_append, List.cons_append, reduceIte, isi_ii, isi_ib, isi_bi, isi_bb, isi_tt, isi_tl, isi_ll, isi_lt, isi_ss, and_d, or_d, and_b, or_b, Bool.or_false, Bool.false_or, Bool.or_true, Bool.true_or, Bool.and_true, Bool.true_and, Bool.and_false, Bool.false_and, wipe_nil, wipe_cons, D_nat, D_int, Nat.reduceAdd, Nat.reduceLeDiff, lm_ok, add_t, add_of, add_ff, add_df, add_dd, add_od, add_fd, Int.cast_ofNat_Int, Int.natCast_zero, Int.natCast_one, Nat.zero_add, Nat.zero_le, stoG_own, stoG_dc, stoK_int, ap_sDic, fz1_dc, ixD1_some, ix_dic, ix_dc, ap_eTmp, scal_i, e3, e4]
    rfl
  have k1 (l0 l1 l2 l3 l4 l6 l7 l8 l9 : L) : q__law_played_1 [l0, l1, l2, l3, l4, .d (.list ((updR R p).map Dt.D)), l6, l7, l8, l9] = .ok (.fr (((updR R p).filter (fun x => decide (0 < x.c))).map Dt.D)) := by
    refine eLc_filter (α := Row) (xs := updR R p) Dt.D (fun x => decide (0 < x.c)) Dt.D (by simp only [ap_sSeq, ap_sNil, ap_sRet, ap_sRetN, ap_sCt, ap_sBk, ap_sRaise, ap_sExp, ap_sAsg, putL_d, putL_fr, ap_sIf, ap_sFor, ap_sUnp, un1_ok, ap_sPar, par2_nx, ap_sApp, ap_sExt, ext2_fr, ext2_d, ap_onOwn, on1_own, ap_sSto, sto2_int, sto3_some, fz1_d, fz1_un, fz1_own, ap_fzE_nil, ap_fzE, sq_nx, sq_rt, sq_bk, sq_ct, sq_ex, sq_stuck, okb, exb, stb, ap_eC, vr_d, vr_own, ap_eVar, ap_eBin, ap_eUn, ap_aNil, ap_aCons, ap_eFz, fzL_d, fzL_fr, fz_d, fz_fr, rd_d, rd_fr, rd_own, allD_nil, allD_cons, ap_eTup, ap_eLst, ap_eCall, ap_eBi, boolL_d, ap_tVal, ap_tAn, ap_tOr, ap_tNt, ap_tTrue, ap_eIf, ap_eAn, ap_eOr, ap_eNt, ap_eChain, ap_okB, ap_okI, add_i, sub_i, mul_i, lt_i, le_i, gt_i, ge_i, bLen_t, bLen_l, bLen_f, bLen_o, bLen_s, bInt_i, bInt_b, bList_t, bList_l, bList_f, bList_o, bTuple_t, bTuple_l, bTuple_f, bTuple_o, bMax_2, bMin_2, ix1_some, ix_t, ix_l, ix_f, ix_o, ix_s, at_0, at_1, at_2, ap_oNone, o1_i, ap_oSome, ap_eSl, sl_t, sl_l, sl_f, sl_o, itL_t, itL_l, ap_iEx, ap_iEn, ap_iZp, zipL_t, zipL_l, zipL_lt, ap_iR1, ap_iR2, int1_i, ap_gNm, ap_gTp, ap_gAll_nil, ap_gAll, semR_nx, semR_rt, List.getElem?_cons_zero, List.getElem?_cons_succ, List.set_cons_zero, List.set_cons_succ, List.length_cons, List.length_nil, if_true, if_false, Bool.not_true, Bool.not_false, Bool.false_eq_true, List.append_nil, List.nil_append, List.cons_append, reduceIte, isi_ii, isi_ib, isi_bi, isi_bb, isi_tt, isi_tl, isi_ll, isi_lt, isi_ss, and_d, or_d, and_b, or_b, Bool.or_false, Bool.false_or, Bool.or_true, Bool.true_or, Bool.and_true, Bool.true_and, Bool.and_false, Bool.false_and, wipe_nil, wipe_cons, D_nat, D_int, Nat.reduceAdd, Nat.reduceLeDiff, lm_ok, add_t, add_of, add_ff, add_df, add_dd, add_od, add_fd, Int.cast_ofNat_Int, Int.natCast_zero, Int.natCast_one, Nat.zero_add, Nat.zero_le, stoG_own, stoG_dc, stoK_int, ap_sDic, fz1_dc, ixD1_some, ix_dic, ix_dc, ap_eTmp, scal_i]) rfl (by have := h.l; simp only [cap, updR, List.length_map]; omega) fun x hx => ⟨_, rfl, ?_, fun _ => ?_⟩
    · simp only [ap_sSeq, ap_sNil, ap_sRet, ap_sRetN, ap_sCt, ap_sBk, ap_sRaise, ap_sExp, ap_sAsg, putL_d, putL_fr, ap_sIf, ap_sFor, ap_sUnp, un1_ok, ap_sPar, par2_nx, ap_sApp, ap_sExt, ext2_fr, ext2_d, ap_onOwn, on1_own, ap_sSto, sto2_int, sto3_some, fz1_d, fz1_un, fz1_own, ap_fzE_nil, ap_fzE, sq_nx, sq_rt, sq_bk, sq_ct, sq_ex, sq_stuck, okb, exb, stb, ap_eC, vr_d, vr_own, ap_eVar, ap_eBin, ap_eUn, ap_aNil, ap_aCons, ap_eFz, fzL_d, fzL_fr, fz_d, fz_fr, rd_d, rd_fr, rd_own, allD_nil, allD_cons, ap_eTup, ap_eLst, ap_eCall, ap_eBi, boolL_d, ap_tVal, ap_tAn, ap_tOr, ap_tNt, ap_tTrue, ap_eIf, ap_eAn, ap_eOr, ap_eNt, ap_eChain, ap_okB, ap_okI, add_i, sub_i, mul_i, lt_i, le_i, gt_i, ge_i, bLen_t, bLen_l, bLen_f, bLen_o, bLen_s, bInt_i, bInt_b, bList_t, bList_l, bList_f, bList_o, bTuple_t, bTuple_l, bTuple_f, bTuple_o, bMax_2, bMin_2, ix1_some, ix_t, ix_l, ix_f, ix_o, ix_s, at_0, at_1, at_2, ap_oNone, o1_i, ap_oSome, ap_eSl, sl_t, sl_l, sl_f, sl_o, itL_t, itL_l, ap_iEx, ap_iEn, ap_iZp, zipL_t, zipL_l, zipL_lt, ap_iR1, ap_iR2, int1_i, ap_gNm, ap_gTp, ap_gAll_nil, ap_gAll, semR_nx, semR_rt, List.getElem?_cons_zero, List.getElem?_cons_succ, List.set_cons_zero, List.set_cons_succ, List.length_cons, List.length_nil, if_true, if_false, Bool.not_true, Bool.not_false, Bool.false_eq_true, List.append_nil, List.nil_append, List.cons_append, reduceIte, isi_ii, isi_ib, isi_bi, isi_bb, isi_tt, isi_tl, isi_ll, isi_lt, isi_ss, and_d, or_d, and_b, or_b, Bool.or_false, Bool.false_or, Bool.or_true, Bool.true_or, Bool.and_true, Bool.true_and, Bool.and_false, Bool.false_and, wipe_nil, wipe_cons, D_nat, D_int, Nat.reduceAdd, Nat.reduceLeDiff, lm_ok, add_t, add_of, add_ff, add_df, add_dd, add_od, add_fd, Int.cast_ofNat_Int, Int.natCast_zero, Int.natCast_one, Nat.zero_add, Nat.zero_le, stoG_own, stoG_dc, stoK_int, ap_sDic, fz1_dc, ixD1_some, ix_dic, ix_dc, ap_eTmp, scal_i, Dr]
    · simp only [ap_sSeq, ap_sNil, ap_sRet, ap_sRetN, ap_sCt, ap_sBk, ap_sRaise, ap_sExp, ap_sAsg, putL_d, putL_fr, ap_sIf, ap_sFor, ap_sUnp, un1_ok, ap_sPar, par2_nx, ap_sApp, ap_sExt, ext2_fr, ext2_d, ap_onOwn, on1_own, ap_sSto, sto2_int, sto3_some, fz1_d, fz1_un, fz1_own, ap_fzE_nil, ap_fzE, sq_nx, sq_rt, sq_bk, sq_ct, sq_ex, sq_stuck, okb, exb, stb, ap_eC, vr_d, vr_own, ap_eVar, ap_eBin, ap_eUn, ap_aNil, ap_aCons, ap_eFz, fzL_d, fzL_fr, fz_d, fz_fr, rd_d, rd_fr, rd_own, allD_nil, allD_cons, ap_eTup, ap_eLst, ap_eCall, ap_eBi, boolL_d, ap_tVal, ap_tAn, ap_tOr, ap_tNt, ap_tTrue, ap_eIf, ap_eAn, ap_eOr, ap_eNt, ap_eChain, ap_okB, ap_okI, add_i, sub_i, mul_i, lt_i, le_i, gt_i, ge_i, bLen_t, bLen_l, bLen_f, bLen_o, bLen_s, bInt_i, bInt_b, bList_t, bList_l, bList_f, bList_o, bTuple_t, bTuple_l, bTuple_f, bTuple_o, bMax_2, bMin_2, ix1_some, ix_t, ix_l, ix_f, ix_o, ix_s, at_0, at_1, at_2, ap_oNone, o1_i, ap_oSome, ap_eSl, sl_t, sl_l, sl_f, sl_o, itL_t, itL_l, ap_iEx, ap_iEn, ap_iZp, zipL_t, zipL_l, zipL_lt, ap_iR1, ap_iR2, int1_i, ap_gNm, ap_gTp, ap_gAll_nil, ap_gAll, semR_nx, semR_rt, List.getElem?_cons_zero, List.getElem?_cons_succ, List.set_cons_zero, List.set_cons_succ, List.length_cons, List.length_nil, if_true, if_false, Bool.not_true, Bool.not_false, Bool.false_eq_true, List.append_nil, List.nil_append, List.cons_append, reduceIte, isi_ii, isi_ib, isi_bi, isi_bb, isi_tt, isi_tl, isi_ll, isi_lt, isi_ss, and_d, or_d, and_b, or_b, Bool.or_false, Bool.false_or, Bool.or_true, Bool.true_or, Bool.and_true, Bool.true_and, Bool.and_false, Bool.false_and, wipe_nil, wipe_cons, D_nat, D_int, Nat.reduceAdd, Nat.reduceLeDiff, lm_ok, add_t, add_of, add_ff, add_df, add_dd, add_od, add_fd, Int.cast_ofNat_Int, Int.natCast_zero, Int.natCast_one, Nat.zero_add, Nat.zero_le, stoG_own, stoG_dc, stoK_int, ap_sDic, fz1_dc, ixD1_some, ix_dic, ix_dc, ap_eTmp, scal_i]
  rw [e__law_played, f__law_played]
  simp only [ap_sSeq, ap_sNil, ap_sRet, ap_sRetN, ap_sCt, ap_sBk, ap_sRaise, ap_sExp, ap_sAsg, putL_d, putL_fr, ap_sIf, ap_sFor, ap_sUnp, un1_ok, ap_sPar, par2_nx, ap_sApp, ap_sExt, ext2_fr, ext2_d, ap_onOwn, on1_own, ap_sSto, sto2_int, sto3_some, fz1_d, fz1_un, fz1_own, ap_fzE_nil, ap_fzE, sq_nx, sq_rt, sq_bk, sq_ct, sq_ex, sq_stuck, okb, exb, stb, ap_eC, vr_d, vr_own, ap_eVar, ap_eBin, ap_eUn, ap_aNil, ap_aCons, ap_eFz, fzL_d, fzL_fr, fz_d, fz_fr, rd_d, rd_fr, rd_own, allD_nil, allD_cons, ap_eTup, ap_eLst, ap_eCall, ap_eBi, boolL_d, ap_tVal, ap_tAn, ap_tOr, ap_tNt, ap_tTrue, ap_eIf, ap_eAn, ap_eOr, ap_eNt, ap_eChain, ap_okB, ap_okI, add_i, sub_i, mul_i, lt_i, le_i, gt_i, ge_i, bLen_t, bLen_l, bLen_f, bLen_o, bLen_s, bInt_i, bInt_b, bList_t, bList_l, bList_f, bList_o, bTuple_t, bTuple_l, bTuple_f, bTuple_o, bMax_2, bMin_2, ix1_some, ix_t, ix_l, ix_f, ix_o, ix_s, at_0, at_1, at_2, ap_oNone, o1_i, ap_oSome, ap_eSl, sl_t, sl_l, sl_f, sl_o, itL_t, itL_l, ap_iEx, ap_iEn, ap_iZp, zipL_t, zipL_l, zipL_lt, ap_iR1, ap_iR2, int1_i, ap_gNm, ap_gTp, ap_gAll_nil, ap_gAll, semR_nx, semR_rt, List.getElem?_cons_zero, List.getElem?_cons_succ, List.set_cons_zero, List.set_cons_succ, List.length_cons, List.length_nil, if_true, if_false, Bool.not_true, Bool.not_false, Bool.false_eq_true, List.append_nil, List.nil_append, List.cons_append, reduceIte, isi_ii, isi_ib, isi_bi, isi_bb, isi_tt, isi_tl, isi_ll, isi_lt, isi_ss, and_d, or_d, and_b, or_b, Bool.or_false, Bool.false_or, Bool.or_true, Bool.true_or, Bool.and_true, Bool.true_and, Bool.and_false, Bool.false_and, wipe_nil, wipe_cons, D_nat, D_int, Nat.reduceAdd, Nat.reduceLeDiff, lm_ok, add_t, add_of, add_ff, add_df, add_dd, add_od, add_fd, Int.cast_ofNat_Int, Int.natCast_zero, Int.natCast_one, Nat.zero_add, Nat.zero_le, stoG_own, stoG_dc, stoK_int, ap_sDic, fz1_dc, ixD1_some, ix_dic, ix_dc, ap_eTmp, scal_i, at_W hw, List.length_map, ixN_nat hw, map_set, hp, hq, k0, k1, updR_filter]
  rfl
/-! numbers drawn -/
def cellV (ns : List Int) (k : Nat) : Int := if ns = [] then (k : Int) * 7919 else ns.getD (k % ns.length) 0 + (k : Int) / (ns.length : Int) * 104729
theorem scr_nil (ns : List Int) : opEq false (.d (scr ns)) (.fr []) = .ok (.d (.bool (decide (ns = [])))) := by
  have h := eq2_D (α := List Int) (by decide) false ns []
  exact h
theorem e23 (ns : List Int) (k : Nat) (hn : ns.length ≤ 100) : s__law_cell [scr ns, .int (k : Int)] = .ok (.int (cellV ns k)) := by
  rw [e__law_cell, f__law_cell]
  by_cases e : ns = []
  · have hc : cellV ns k = (k : Int) * 7919 := if_pos e
    rw [hc]
    simp only [ap_sSeq, ap_sNil, ap_sRet, ap_sRetN, ap_sCt, ap_sBk, ap_sRaise, ap_sExp, ap_sAsg, putL_d, putL_fr, ap_sIf, ap_sFor, ap_sUnp, un1_ok, ap_sPar, par2_nx, ap_sApp, ap_sExt, ext2_fr, ext2_d, ap_onOwn, on1_own, ap_sSto, sto2_int, sto3_some, fz1_d, fz1_un, fz1_own, ap_fzE_nil, ap_fzE, sq_nx, sq_rt, sq_bk, sq_ct, sq_ex, sq_stuck, okb, exb, stb, ap_eC, vr_d, vr_own, ap_eVar, ap_eBin, ap_eUn, ap_aNil, ap_aCons, ap_eFz, fzL_d, fzL_fr, fz_d, fz_fr, rd_d, rd_fr, rd_own, allD_nil, allD_cons, ap_eTup, ap_eLst, ap_eCall, ap_eBi, boolL_d, ap_tVal, ap_tAn, ap_tOr, ap_tNt, ap_tTrue, ap_eIf, ap_eAn, ap_eOr, ap_eNt, ap_eChain, ap_okB, ap_okI, add_i, sub_i, mul_i, lt_i, le_i, gt_i, ge_i, bLen_t, bLen_l, bLen_f, bLen_o, bLen_s, bInt_i, bInt_b, bList_t, bList_l, bList_f, bList_o, bTuple_t, bTuple_l, bTuple_f, bTuple_o, bMax_2, bMin_2, ix1_some, ix_t, ix_l, ix_f, ix_o, ix_s, at_0, at_1, at_2, ap_oNone, o1_i, ap_oSome, ap_eSl, sl_t, sl_l, sl_f, sl_o, itL_t, itL_l, ap_iEx, ap_iEn, ap_iZp, zipL_t, zipL_l, zipL_lt, ap_iR1, ap_iR2, int1_i, ap_gNm, ap_gTp, ap_gAll_nil, ap_gAll, semR_nx, semR_rt, List.getElem?_cons_zero, List.getElem?_cons_succ, List.set_cons_zero, List.set_cons_succ, List.length_cons, List.length_nil, if_true, if_false, Bool.not_true, Bool.not_false, Bool.false_eq_true, List.append_nil, List.nil_append, List.cons_append, reduceIte, isi_ii, isi_ib, isi_bi, isi_bb, isi_tt, isi_tl, isi_ll, isi_lt, isi_ss, and_d, or_d, and_b, or_b, Bool.or_false, Bool.false_or, Bool.or_true, Bool.true_or, Bool.and_true, Bool.true_and, Bool.and_false, Bool.false_and, wipe_nil, wipe_cons, D_nat, D_int, Nat.reduceAdd, Nat.reduceLeDiff, lm_ok, add_t, add_of, add_ff, add_df, add_dd, add_od, add_fd, Int.cast_ofNat_Int, Int.natCast_zero, Int.natCast_one, Nat.zero_add, Nat.zero_le, stoG_own, stoG_dc, stoK_int, ap_sDic, fz1_dc, ixD1_some, ix_dic, ix_dc, ap_eTmp, scal_i, scr_nil, decide_eq_true e, mulK (i := (k : Int)) (j := 7919) (by decide) (by decide)]
  · have h0 : 0 < ns.length := List.length_pos_iff.mpr e
    have hl : (0 : Int) < (ns.length : Int) := by omega
    have hm : ((k : Int) % (ns.length : Int)) = ((k % ns.length : Nat) : Int) := (Int.natCast_emod ..).symm
    have hx : k % ns.length < ns.length := Nat.mod_lt _ h0
    have hi : ((ns.length : Int)).natAbs < 2 ^ 500 := mid_of (by omega) (by omega)
    have hc : cellV ns k = ns.getD (k % ns.length) 0 + (k : Int) / (ns.length : Int) * 104729 := if_neg e
    rw [hc]
    simp only [ap_sSeq, ap_sNil, ap_sRet, ap_sRetN, ap_sCt, ap_sBk, ap_sRaise, ap_sExp, ap_sAsg, putL_d, putL_fr, ap_sIf, ap_sFor, ap_sUnp, un1_ok, ap_sPar, par2_nx, ap_sApp, ap_sExt, ext2_fr, ext2_d, ap_onOwn, on1_own, ap_sSto, sto2_int, sto3_some, fz1_d, fz1_un, fz1_own, ap_fzE_nil, ap_fzE, sq_nx, sq_rt, sq_bk, sq_ct, sq_ex, sq_stuck, okb, exb, stb, ap_eC, vr_d, vr_own, ap_eVar, ap_eBin, ap_eUn, ap_aNil, ap_aCons, ap_eFz, fzL_d, fzL_fr, fz_d, fz_fr, rd_d, rd_fr, rd_own, allD_nil, allD_cons, ap_eTup, ap_eLst, ap_eCall, ap_eBi, boolL_d, ap_tVal, ap_tAn, ap_tOr, ap_tNt, ap_tTrue, ap_eIf, ap_eAn, ap_eOr, ap_eNt, ap_eChain, ap_okB, ap_okI, add_i, sub_i, mul_i, lt_i, le_i, gt_i, ge_i, bLen_t, bLen_l, bLen_f, bLen_o, bLen_s, bInt_i, bInt_b, bList_t, bList_l, bList_f, bList_o, bTuple_t, bTuple_l, bTuple_f, bTuple_o, bMax_2, bMin_2, ix1_some, ix_t, ix_l, ix_f, ix_o, ix_s, at_0, at_1, at_2, ap_oNone, o1_i, ap_oSome, ap_eSl, sl_t, sl_l, sl_f, sl_o, itL_t, itL_l, ap_iEx, ap_iEn, ap_iZp, zipL_t, zipL_l, zipL_lt, ap_iR1, ap_iR2, int1_i, ap_gNm, ap_gTp, ap_gAll_nil, ap_gAll, semR_nx, semR_rt, List.getElem?_cons_zero, List.getElem?_cons_succ, List.set_cons_zero, List.set_cons_succ, List.length_cons, List.length_nil, if_true, if_false, Bool.not_true, Bool.not_false, Bool.false_eq_true, List.append_nil, List.nil_append, List.cons_append, reduceIte, isi_ii, isi_ib, isi_bi, isi_bb, isi_tt, isi_tl, isi_ll, isi_lt, isi_ss, and_d, or_d, and_b, or_b, Bool.or_false, Bool.false_or, Bool.or_true, Bool.true_or, Bool.and_true, Bool.true_and, Bool.and_false, Bool.false_and, wipe_nil, wipe_cons, D_nat, D_int, Nat.reduceAdd, Nat.reduceLeDiff, lm_ok, add_t, add_of, add_ff, add_df, add_dd, add_od, add_fd, Int.cast_ofNat_Int, Int.natCast_zero, Int.natCast_one, Nat.zero_add, Nat.zero_le, stoG_own, stoG_dc, stoK_int, ap_sDic, fz1_dc, ixD1_some, ix_dic, ix_dc, ap_eTmp, scal_i, scr_nil, decide_eq_false e, mod_i hl, div_i hl hi, hm, at_W hx, mulK (i := (k : Int) / (ns.length : Int)) (j := 104729) (by decide) (by decide)]
def dr (c k : Int) : Int :=
  let m1 := (c * 6364136223846793005 + (k + 1) * 1442695040888963407) % 340282366920938463463374607431768211507
  let m2 := m1 * m1 % 340282366920938463463374607431768211297
  (m2 % 18446744073709551557 + 1) * (m2 / 18446744073709551557 + 1) * m2 % 340282366920938463463374607431768211507
theorem dr_pos (c k : Int) : 0 ≤ dr c k := Int.emod_nonneg _ (by decide)
theorem e24 (c k : Int) : s__law_drawn [.int c, .int k] = .ok (.int (dr c k)) := by
  have p1 : (0 : Int) < 340282366920938463463374607431768211507 := by decide
  have p2 : (0 : Int) < 340282366920938463463374607431768211297 := by decide
  have p3 : (0 : Int) < 18446744073709551557 := by decide
  unfold dr
  rw [e__law_drawn, f__law_drawn]
  simp only [ap_sSeq, ap_sNil, ap_sRet, ap_sRetN, ap_sCt, ap_sBk, ap_sRaise, ap_sExp, ap_sAsg, putL_d, putL_fr, ap_sIf, ap_sFor, ap_sUnp, un1_ok, ap_sPar, par2_nx, ap_sApp, ap_sExt, ext2_fr, ext2_d, ap_onOwn, on1_own, ap_sSto, sto2_int, sto3_some, fz1_d, fz1_un, fz1_own, ap_fzE_nil, ap_fzE, sq_nx, sq_rt, sq_bk, sq_ct, sq_ex, sq_stuck, okb, exb, stb, ap_eC, vr_d, vr_own, ap_eVar, ap_eBin, ap_eUn, ap_aNil, ap_aCons, ap_eFz, fzL_d, fzL_fr, fz_d, fz_fr, rd_d, rd_fr, rd_own, allD_nil, allD_cons, ap_eTup, ap_eLst, ap_eCall, ap_eBi, boolL_d, ap_tVal, ap_tAn, ap_tOr, ap_tNt, ap_tTrue, ap_eIf, ap_eAn, ap_eOr, ap_eNt, ap_eChain, ap_okB, ap_okI, add_i, sub_i, mul_i, lt_i, le_i, gt_i, ge_i, bLen_t, bLen_l, bLen_f, bLen_o, bLen_s, bInt_i, bInt_b, bList_t, bList_l, bList_f, bList_o, bTuple_t, bTuple_l, bTuple_f, bTuple_o, bMax_2, bMin_2, ix1_some, ix_t, ix_l, ix_f, ix_o, ix_s, at_0, at_1, at_2, ap_oNone, o1_i, ap_oSome, ap_eSl, sl_t, sl_l, sl_f, sl_o, itL_t, itL_l, ap_iEx, ap_iEn, ap_iZp, zipL_t, zipL_l, zipL_lt, ap_iR1, ap_iR2, int1_i, ap_gNm, ap_gTp, ap_gAll_nil, ap_gAll, semR_nx, semR_rt, List.getElem?_cons_zero, List.getElem?_cons_succ, List.set_cons_zero, List.set_cons_succ, List.length_cons, List.length_nil, if_true, if_false, Bool.not_true, Bool.not_false, Bool.false_eq_true, List.append_nil, List.nil_append, List.cons_append, reduceIte, isi_ii, isi_ib, isi_bi, isi_bb, isi_tt, isi_tl, isi_ll, isi_lt, isi_ss, and_d, or_d, and_b, or_b, Bool.or_false, Bool.false_or, Bool.or_true, Bool.true_or, Bool.and_true, Bool.true_and, Bool.and_false, Bool.false_and, wipe_nil, wipe_cons, D_nat, D_int, Nat.reduceAdd, Nat.reduceLeDiff, lm_ok, add_t, add_of, add_ff, add_df, add_dd, add_od, add_fd, Int.cast_ofNat_Int, Int.natCast_zero, Int.natCast_one, Nat.zero_add, Nat.zero_le, stoG_own, stoG_dc, stoK_int, ap_sDic, fz1_dc, ixD1_some, ix_dic, ix_dc, ap_eTmp, scal_i, mulK (i := c) (j := 6364136223846793005) (by decide) (by decide), mulK (i := k + 1) (j := 1442695040888963407) (by decide) (by decide), mod_i p1]
  generalize hm1 : (c * 6364136223846793005 + (k + 1) * 1442695040888963407) % 340282366920938463463374607431768211507 = m1
  have a1 : 0 ≤ m1 := by rw [← hm1]; exact Int.emod_nonneg _ (by decide)
  have a2 : m1 < 340282366920938463463374607431768211507 := by rw [← hm1]; exact Int.emod_lt_of_pos _ p1
  have b1 : m1.natAbs < 2 ^ 500 := mid_of (by omega) (by omega)
  simp only [ap_sSeq, ap_sNil, ap_sRet, ap_sRetN, ap_sCt, ap_sBk, ap_sRaise, ap_sExp, ap_sAsg, putL_d, putL_fr, ap_sIf, ap_sFor, ap_sUnp, un1_ok, ap_sPar, par2_nx, ap_sApp, ap_sExt, ext2_fr, ext2_d, ap_onOwn, on1_own, ap_sSto, sto2_int, sto3_some, fz1_d, fz1_un, fz1_own, ap_fzE_nil, ap_fzE, sq_nx, sq_rt, sq_bk, sq_ct, sq_ex, sq_stuck, okb, exb, stb, ap_eC, vr_d, vr_own, ap_eVar, ap_eBin, ap_eUn, ap_aNil, ap_aCons, ap_eFz, fzL_d, fzL_fr, fz_d, fz_fr, rd_d, rd_fr, rd_own, allD_nil, allD_cons, ap_eTup, ap_eLst, ap_eCall, ap_eBi, boolL_d, ap_tVal, ap_tAn, ap_tOr, ap_tNt, ap_tTrue, ap_eIf, ap_eAn, ap_eOr, ap_eNt, ap_eChain, ap_okB, ap_okI, add_i, sub_i, mul_i, lt_i, le_i, gt_i, ge_i, bLen_t, bLen_l, bLen_f, bLen_o, bLen_s, bInt_i, bInt_b, bList_t, bList_l, bList_f, bList_o, bTuple_t, bTuple_l, bTuple_f, bTuple_o, bMax_2, bMin_2, ix1_some, ix_t, ix_l, ix_f, ix_o, ix_s, at_0, at_1, at_2, ap_oNone, o1_i, ap_oSome, ap_eSl, sl_t, sl_l, sl_f, sl_o, itL_t, itL_l, ap_iEx, ap_iEn, ap_iZp, zipL_t, zipL_l, zipL_lt, ap_iR1, ap_iR2, int1_i, ap_gNm, ap_gTp, ap_gAll_nil, ap_gAll, semR_nx, semR_rt, List.getElem?_cons_zero, List.getElem?_cons_succ, List.set_cons_zero, List.set_cons_succ, List.length_cons, List.length_nil, if_true, if_false, Bool.not_true, Bool.not_false, Bool.false_eq_true, List.append_nil, List.nil_append, List.cons_append, reduceIte, isi_ii, isi_ib, isi_bi, isi_bb, isi_tt, isi_tl, isi_ll, isi_lt, isi_ss, and_d, or_d, and_b, or_b, Bool.or_false, Bool.false_or, Bool.or_true, Bool.true_or, Bool.and_true, Bool.true_and, Bool.and_false, Bool.false_and, wipe_nil, wipe_cons, D_nat, D_int, Nat.reduceAdd, Nat.reduceLeDiff, lm_ok, add_t, add_of, add_ff, add_df, add_dd, add_od, add_fd, Int.cast_ofNat_Int, Int.natCast_zero, Int.natCast_one, Nat.zero_add, Nat.zero_le, stoG_own, stoG_dc, stoK_int, ap_sDic, fz1_dc, ixD1_some, ix_dic, ix_dc, ap_eTmp, scal_i, mulI_m b1 b1, mod_i p2]
  generalize hm2 : m1 * m1 % 340282366920938463463374607431768211297 = m2
  have c1 : 0 ≤ m2 := by rw [← hm2]; exact Int.emod_nonneg _ (by decide)
  have c2 : m2 < 340282366920938463463374607431768211297 := by rw [← hm2]; exact Int.emod_lt_of_pos _ p2
  have d1 : 0 ≤ m2 % 18446744073709551557 := Int.emod_nonneg _ (by decide)
  have d2 : m2 % 18446744073709551557 < 18446744073709551557 := Int.emod_lt_of_pos _ p3
  have d3 : 0 ≤ m2 / 18446744073709551557 := by omega
  have d4 : m2 / 18446744073709551557 < 18446744073709551700 := by omega
  have f1 : 0 ≤ (m2 % 18446744073709551557 + 1) * (m2 / 18446744073709551557 + 1) := Int.mul_nonneg (by omega) (by omega)
  have f2 : (m2 % 18446744073709551557 + 1) * (m2 / 18446744073709551557 + 1) ≤ 18446744073709551557 * 18446744073709551700 := Int.mul_le_mul (by omega) (by omega) (by omega) (by omega)
  simp only [ap_sSeq, ap_sNil, ap_sRet, ap_sRetN, ap_sCt, ap_sBk, ap_sRaise, ap_sExp, ap_sAsg, putL_d, putL_fr, ap_sIf, ap_sFor, ap_sUnp, un1_ok, ap_sPar, par2_nx, ap_sApp, ap_sExt, ext2_fr, ext2_d, ap_onOwn, on1_own, ap_sSto, sto2_int, sto3_some, fz1_d, fz1_un, fz1_own, ap_fzE_nil, ap_fzE, sq_nx, sq_rt, sq_bk, sq_ct, sq_ex, sq_stuck, okb, exb, stb, ap_eC, vr_d, vr_own, ap_eVar, ap_eBin, ap_eUn, ap_aNil, ap_aCons, ap_eFz, fzL_d, fzL_fr, fz_d, fz_fr, rd_d, rd_fr, rd_own, allD_nil, allD_cons, ap_eTup, ap_eLst, ap_eCall, ap_eBi, boolL_d, ap_tVal, ap_tAn, ap_tOr, ap_tNt, ap_tTrue, ap_eIf, ap_eAn, ap_eOr, ap_eNt, ap_eChain, ap_okB, ap_okI, add_i, sub_i, mul_i, lt_i, le_i, gt_i, ge_i, bLen_t, bLen_l, bLen_f, bLen_o, bLen_s, bInt_i, bInt_b, bList_t, bList_l, bList_f, bList_o, bTuple_t, bTuple_l, bTuple_f, bTuple_o, bMax_2, bMin_2, ix1_some, ix_t, ix_l, ix_f, ix_o, ix_s, at_0, at_1, at_2, ap_oNone, o1_i, ap_oSome, ap_eSl, sl_t, sl_l, sl_f, sl_o, itL_t, itL_l, ap_iEx, ap_iEn, ap_iZp, zipL_t, zipL_l, zipL_lt, ap_iR1, ap_iR2, int1_i, ap_gNm, ap_gTp, ap_gAll_nil, ap_gAll, semR_nx, semR_rt, List.getElem?_cons_zero, List.getElem?_cons_succ, List.set_cons_zero, List.set_cons_succ, List.length_cons, List.length_nil, if_true, if_false, Bool.not_true, Bool.not_false, Bool.false_eq_true, List.append_nil, List.nil_append, List.cons_append, reduceIte, isi_ii, isi_ib, isi_bi, isi_bb, isi_tt, isi_tl, isi_ll, isi_lt, isi_ss, and_d, or_d, and_b, or_b, Bool.or_false, Bool.false_or, Bool.or_true, Bool.true_or, Bool.and_true, Bool.true_and, Bool.and_false, Bool.false_and, wipe_nil, wipe_cons, D_nat, D_int, Nat.reduceAdd, Nat.reduceLeDiff, lm_ok, add_t, add_of, add_ff, add_df, add_dd, add_od, add_fd, Int.cast_ofNat_Int, Int.natCast_zero, Int.natCast_one, Nat.zero_add, Nat.zero_le, stoG_own, stoG_dc, stoK_int, ap_sDic, fz1_dc, ixD1_some, ix_dic, ix_dc, ap_eTmp, scal_i, mod_i p3, div_i p3 (show ((18446744073709551557 : Int)).natAbs < 2 ^ 500 from mid_of (by omega) (by omega)), mulK' (i := m2 % 18446744073709551557 + 1) (j := m2 / 18446744073709551557 + 1) (by omega) (by omega),
    mulI_m (i := (m2 % 18446744073709551557 + 1) * (m2 / 18446744073709551557 + 1)) (j := m2) (mid_of (by omega) (by omega)) (mid_of (by omega) (by omega)), mod_i p1]
end
theorem addAt_get (W : List Int) {a i : Nat} (v : Int) (ha : a < W.length) : (addAt W a v).getD i 0 = W.getD i 0 + if a = i then v else 0 := by
  unfold addAt
  rw [List.getD_eq_getElem?_getD, List.getD_eq_getElem?_getD, List.getElem?_set]
  by_cases h : a = i
  · subst h
    rw [if_pos rfl, if_pos ha, if_pos rfl, List.getD_eq_getElem?_getD]
    rfl
  · rw [if_neg h, if_neg h, Int.add_zero, List.getD_eq_getElem?_getD]
end LG
namespace LG
open PySem PySem.Spec PyProof.Rows L2 PD PG
/-! the league that is drawn -/

structure Gd (R : List Row) (n a b : Nat) : Prop where
  r : ∀ x ∈ R, x.a < x.b ∧ x.b < n ∧ 1 ≤ x.c ∧ x.c ≤ 9 ∧ (x.a < a ∨ (x.a = a ∧ x.b < b))
  s : R.Pairwise fun x y => x.a < y.a ∨ (x.a = y.a ∧ x.b < y.b)
theorem Gd.nil (n a b : Nat) : Gd [] n a b := ⟨fun x h => absurd h (by simp), .nil⟩
theorem Gd.up {R : List Row} {n a b a' b' : Nat} (g : Gd R n a b) (h : a < a' ∨ (a = a' ∧ b ≤ b')) : Gd R n a' b' :=
  ⟨fun x hx => by obtain ⟨h1, h2, h3, h4, h5⟩ := g.r x hx; exact ⟨h1, h2, h3, h4, by omega⟩, g.s⟩
theorem Gd.app {R : List Row} {n a b : Nat} {c : Int} (g : Gd R n a b) (h1 : a < b) (h2 : b < n) (h3 : 1 ≤ c) (h4 : c ≤ 9) : Gd (R ++ [⟨a, b, c⟩]) n a (b + 1) := by
  refine ⟨fun x hx => ?_, ?_⟩
  · rcases List.mem_append.mp hx with hx | hx
    · obtain ⟨h1, h2, h3, h4, h5⟩ := g.r x hx
      exact ⟨h1, h2, h3, h4, by omega⟩
    · have e : x = ⟨a, b, c⟩ := by simpa using hx
      subst e
      exact ⟨h1, h2, h3, h4, by simp⟩
  · rw [List.pairwise_append]
    refine ⟨g.s, by simp, fun x hx y hy => ?_⟩
    have e : y = ⟨a, b, c⟩ := by simpa using hy
    subst e
    obtain ⟨_, _, _, _, h5⟩ := g.r x hx
    exact h5
theorem at_pick {xs : List Int} {i : Int} (h0 : 0 ≤ i) (h1 : i < xs.length) : atI (xs.map PyData.int) i = some (.int (xs.getD i.toNat 0)) := by
  have e : i = ((i.toNat : Nat) : Int) := by omega
  rw [e]
  exact at_W (by omega)
def pick4 (k : Int) : Int := [1, 2, 3, 9].getD k.toNat 0
theorem pick4_in {k : Int} (h0 : 0 ≤ k) (h1 : k < 4) : 1 ≤ pick4 k ∧ pick4 k ≤ 9 := by
  have : k = 0 ∨ k = 1 ∨ k = 2 ∨ k = 3 := by omega
  rcases this with e | e | e | e <;> subst e <;> decide
def pick3 (k : Int) : Int := [3, 6, 61].getD k.toNat 0
theorem pick3_in {k : Int} (h0 : 0 ≤ k) (h1 : k < 3) : 1 ≤ pick3 k ∧ pick3 k ≤ 61 := by
  have : k = 0 ∨ k = 1 ∨ k = 2 := by omega
  rcases this with e | e | e <;> subst e <;> decide
def hereV (more : Int) (one other : Nat) : Int := dr more (10 + 6 * (one : Int) + (other : Int))
def lstep (more : Int) (one : Nat) (s : Pst) (j : Nat) : Pst :=
  (s.1 ++ (if 0 < hereV more one (one + 1 + j) % 3 then [⟨one, one + 1 + j, 1 + hereV more one (one + 1 + j) / 8 % pick4 (hereV more one (one + 1 + j) / 64 % 4)⟩] else []), .d (.int ((one + 1 + j : Nat) : Int)), .d (.int (hereV more one (one + 1 + j))))
abbrev Pst3 := List Row × L × L × L
def lstep2 (more : Int) (n : Nat) (s : Pst3) (one : Nat) : Pst3 :=
  (((List.range (n - one - 1)).foldl (lstep more one) (s.1, s.2.2.1, s.2.2.2)).1, .d (.int (one : Int)), ((List.range (n - one - 1)).foldl (lstep more one) (s.1, s.2.2.1, s.2.2.2)).2.1, ((List.range (n - one - 1)).foldl (lstep more one) (s.1, s.2.2.1, s.2.2.2)).2.2)
theorem k500 {i : Int} (h1 : -1000000 < i) (h2 : i < 1000000) : i.natAbs < 2 ^ 500 := mid_of (by omega) (by omega)
theorem lp_inner {more mt : Int} {one n : Nat} {W : PyData} (hn : n ≤ 6) (ho : one < n) {L0 : Nat} (hL : L0 ≤ 90) (s : Pst) (g : Gd s.1 n one 0) (hl : s.1.length ≤ L0) :
    forGo (gNm 6) b__law_league_1 ((List.range (n - one - 1)).map fun (j : Nat) => PyData.int ((one : Int) + 1 + (j : Int))) [L.d (.int more), .d (.int mt), .d (.int (n : Int)), .d W, .own (s.1.map Dt.D), .d (.int (one : Int)), s.2.1, s.2.2, .un]
      = .ok (.nx [L.d (.int more), .d (.int mt), .d (.int (n : Int)), .d W, .own (((List.range (n - one - 1)).foldl (lstep more one) s).1.map Dt.D), .d (.int (one : Int)), ((List.range (n - one - 1)).foldl (lstep more one) s).2.1, ((List.range (n - one - 1)).foldl (lstep more one) s).2.2, .un])
    ∧ Gd ((List.range (n - one - 1)).foldl (lstep more one) s).1 n (one + 1) 0 ∧ ((List.range (n - one - 1)).foldl (lstep more one) s).1.length ≤ L0 + 6 := by
  have lp := forGo_T (α := Nat) (σ := Pst) (g := gNm 6) (body := b__law_league_1) (fun j => PyData.int ((one : Int) + 1 + (j : Int)))
    (fun s => [L.d (.int more), .d (.int mt), .d (.int (n : Int)), .d W, .own (s.1.map Dt.D), .d (.int (one : Int)), s.2.1, s.2.2, .un]) (lstep more one) (fun i s => Gd s.1 n one (one + 1 + i) ∧ s.1.length ≤ L0 + i) (xs := List.range (n - one - 1)) (n := 0) (s := s)
    ⟨g.up (.inr ⟨rfl, by omega⟩), by omega⟩ fun i s x hx hi => by
      have e : x = i ∧ i < n - one - 1 := by
        have h1 := List.getElem?_eq_some_iff.mp hx
        obtain ⟨h1, h2⟩ := h1
        rw [List.getElem_range] at h2
        rw [List.length_range] at h1
        exact ⟨h2.symm, h1⟩
      obtain ⟨rfl, hi2⟩ := e
      obtain ⟨hg, hl2⟩ := hi
      have c1 : (one : Int) + 1 + (x : Int) = ((one + 1 + x : Nat) : Int) := by omega
      have c2 : (10 : Int) + 6 * (one : Int) + ((one + 1 + x : Nat) : Int) = 10 + 6 * (one : Int) + ((one + 1 + x : Nat) : Int) := rfl
      generalize hh : hereV more one (one + 1 + x) = here
      have hdr : dr more (10 + 6 * (one : Int) + ((one + 1 + x : Nat) : Int)) = here := hh
      have hp : 0 ≤ here := by rw [← hh]; exact dr_pos _ _
      have m1 : 0 ≤ here / 64 % 4 ∧ here / 64 % 4 < 4 := by omega
      obtain ⟨q1, q2⟩ := pick4_in m1.1 m1.2
      have q3 : 0 ≤ here / 8 % pick4 (here / 64 % 4) := Int.emod_nonneg _ (by omega)
      have q4 : here / 8 % pick4 (here / 64 % 4) < pick4 (here / 64 % 4) := Int.emod_lt_of_pos _ (by omega)
      have a4 : atI [PyData.int 1, .int 2, .int 3, .int 9] (here / 64 % 4) = some (.int (pick4 (here / 64 % 4))) := at_pick (xs := [1, 2, 3, 9]) m1.1 (by simpa using m1.2)
      refine ⟨_, rfl, .inl ?_, ?_, ?_⟩
      · rw [b__law_league_1]
        unfold lstep
        rw [hh]
        simp only [ap_sSeq, ap_sNil, ap_sRet, ap_sRetN, ap_sCt, ap_sBk, ap_sRaise, ap_sExp, ap_sAsg, putL_d, putL_fr, ap_sIf, ap_sFor, ap_sUnp, un1_ok, ap_sPar, par2_nx, ap_sApp, ap_sExt, ext2_fr, ext2_d, ap_onOwn, on1_own, ap_sSto, sto2_int, sto3_some, fz1_d, fz1_un, fz1_own, ap_fzE_nil, ap_fzE, sq_nx, sq_rt, sq_bk, sq_ct, sq_ex, sq_stuck, okb, exb, stb, ap_eC, vr_d, vr_own, ap_eVar, ap_eBin, ap_eUn, ap_aNil, ap_aCons, ap_eFz, fzL_d, fzL_fr, fz_d, fz_fr, rd_d, rd_fr, rd_own, allD_nil, allD_cons, ap_eTup, ap_eLst, ap_eCall, ap_eBi, boolL_d, ap_tVal, ap_tAn, ap_tOr, ap_tNt, ap_tTrue, ap_eIf, ap_eAn, ap_eOr, ap_eNt, ap_eChain, ap_okB, ap_okI, add_i, sub_i, mul_i, lt_i, le_i, gt_i, ge_i, bLen_t, bLen_l, bLen_f, bLen_o, bLen_s, bInt_i, bInt_b, bList_t, bList_l, bList_f, bList_o, bTuple_t, bTuple_l, bTuple_f, bTuple_o, bMax_2, bMin_2, ix1_some, ix_t, ix_l, ix_f, ix_o, ix_s, at_0, at_1, at_2, ap_oNone, o1_i, ap_oSome, ap_eSl, sl_t, sl_l, sl_f, sl_o, itL_t, itL_l, ap_iEx, ap_iEn, ap_iZp, zipL_t, zipL_l, zipL_lt, ap_iR1, ap_iR2, int1_i, ap_gNm, ap_gTp, ap_gAll_nil, ap_gAll, semR_nx, semR_rt, List.getElem?_cons_zero, List.getElem?_cons_succ, List.set_cons_zero, List.set_cons_succ, List.length_cons, List.length_nil, if_true, if_false, Bool.not_true, Bool.not_false, Bool.false_eq_true, List.append_nil, List.nil_append, List.cons_append, reduceIte, isi_ii, isi_ib, isi_bi, isi_bb, isi_tt, isi_tl, isi_ll, isi_lt, isi_ss, and_d, or_d, and_b, or_b, Bool.or_false, Bool.false_or, Bool.or_true, Bool.true_or, Bool.and_true, Bool.true_and, Bool.and_false, Bool.false_and, wipe_nil, wipe_cons, D_nat, D_int, Nat.reduceAdd, Nat.reduceLeDiff, lm_ok, add_t, add_of, add_ff, add_df, add_dd, add_od, add_fd, Int.cast_ofNat_Int, Int.natCast_zero, Int.natCast_one, Nat.zero_add, Nat.zero_le, stoG_own, stoG_dc, stoK_int, ap_sDic, fz1_dc, ixD1_some, ix_dic, ix_dc, ap_eTmp, scal_i, c1, e24, mulK' (i := 6) (j := (one : Int)) (by decide) (by decide), hdr, mod_i (show (0 : Int) < 3 by decide)]
        by_cases q : 0 < here % 3
        · simp only [ap_sSeq, ap_sNil, ap_sRet, ap_sRetN, ap_sCt, ap_sBk, ap_sRaise, ap_sExp, ap_sAsg, putL_d, putL_fr, ap_sIf, ap_sFor, ap_sUnp, un1_ok, ap_sPar, par2_nx, ap_sApp, ap_sExt, ext2_fr, ext2_d, ap_onOwn, on1_own, ap_sSto, sto2_int, sto3_some, fz1_d, fz1_un, fz1_own, ap_fzE_nil, ap_fzE, sq_nx, sq_rt, sq_bk, sq_ct, sq_ex, sq_stuck, okb, exb, stb, ap_eC, vr_d, vr_own, ap_eVar, ap_eBin, ap_eUn, ap_aNil, ap_aCons, ap_eFz, fzL_d, fzL_fr, fz_d, fz_fr, rd_d, rd_fr, rd_own, allD_nil, allD_cons, ap_eTup, ap_eLst, ap_eCall, ap_eBi, boolL_d, ap_tVal, ap_tAn, ap_tOr, ap_tNt, ap_tTrue, ap_eIf, ap_eAn, ap_eOr, ap_eNt, ap_eChain, ap_okB, ap_okI, add_i, sub_i, mul_i, lt_i, le_i, gt_i, ge_i, bLen_t, bLen_l, bLen_f, bLen_o, bLen_s, bInt_i, bInt_b, bList_t, bList_l, bList_f, bList_o, bTuple_t, bTuple_l, bTuple_f, bTuple_o, bMax_2, bMin_2, ix1_some, ix_t, ix_l, ix_f, ix_o, ix_s, at_0, at_1, at_2, ap_oNone, o1_i, ap_oSome, ap_eSl, sl_t, sl_l, sl_f, sl_o, itL_t, itL_l, ap_iEx, ap_iEn, ap_iZp, zipL_t, zipL_l, zipL_lt, ap_iR1, ap_iR2, int1_i, ap_gNm, ap_gTp, ap_gAll_nil, ap_gAll, semR_nx, semR_rt, List.getElem?_cons_zero, List.getElem?_cons_succ, List.set_cons_zero, List.set_cons_succ, List.length_cons, List.length_nil, if_true, if_false, Bool.not_true, Bool.not_false, Bool.false_eq_true, List.append_nil, List.nil_append, List.cons_append, reduceIte, isi_ii, isi_ib, isi_bi, isi_bb, isi_tt, isi_tl, isi_ll, isi_lt, isi_ss, and_d, or_d, and_b, or_b, Bool.or_false, Bool.false_or, Bool.or_true, Bool.true_or, Bool.and_true, Bool.true_and, Bool.and_false, Bool.false_and, wipe_nil, wipe_cons, D_nat, D_int, Nat.reduceAdd, Nat.reduceLeDiff, lm_ok, add_t, add_of, add_ff, add_df, add_dd, add_od, add_fd, Int.cast_ofNat_Int, Int.natCast_zero, Int.natCast_one, Nat.zero_add, Nat.zero_le, stoG_own, stoG_dc, stoK_int, ap_sDic, fz1_dc, ixD1_some, ix_dic, ix_dc, ap_eTmp, scal_i, q, decide_true, div_i (show (0 : Int) < 8 by decide) (k500 (by decide) (by decide)), div_i (show (0 : Int) < 64 by decide) (k500 (by decide) (by decide)), mod_i (show (0 : Int) < 4 by decide), a4, mod_i (show 0 < pick4 (here / 64 % 4) by omega), List.length_map, lm_ok (show s.1.length + 1 ≤ 100000 by omega)]
          simp only [if_pos q, List.map_append]
          rfl
        · simp only [ap_sSeq, ap_sNil, ap_sRet, ap_sRetN, ap_sCt, ap_sBk, ap_sRaise, ap_sExp, ap_sAsg, putL_d, putL_fr, ap_sIf, ap_sFor, ap_sUnp, un1_ok, ap_sPar, par2_nx, ap_sApp, ap_sExt, ext2_fr, ext2_d, ap_onOwn, on1_own, ap_sSto, sto2_int, sto3_some, fz1_d, fz1_un, fz1_own, ap_fzE_nil, ap_fzE, sq_nx, sq_rt, sq_bk, sq_ct, sq_ex, sq_stuck, okb, exb, stb, ap_eC, vr_d, vr_own, ap_eVar, ap_eBin, ap_eUn, ap_aNil, ap_aCons, ap_eFz, fzL_d, fzL_fr, fz_d, fz_fr, rd_d, rd_fr, rd_own, allD_nil, allD_cons, ap_eTup, ap_eLst, ap_eCall, ap_eBi, boolL_d, ap_tVal, ap_tAn, ap_tOr, ap_tNt, ap_tTrue, ap_eIf, ap_eAn, ap_eOr, ap_eNt, ap_eChain, ap_okB, ap_okI, add_i, sub_i, mul_i, lt_i, le_i, gt_i, ge_i, bLen_t, bLen_l, bLen_f, bLen_o, bLen_s, bInt_i, bInt_b, bList_t, bList_l, bList_f, bList_o, bTuple_t, bTuple_l, bTuple_f, bTuple_o, bMax_2, bMin_2, ix1_some, ix_t, ix_l, ix_f, ix_o, ix_s, at_0, at_1, at_2, ap_oNone, o1_i, ap_oSome, ap_eSl, sl_t, sl_l, sl_f, sl_o, itL_t, itL_l, ap_iEx, ap_iEn, ap_iZp, zipL_t, zipL_l, zipL_lt, ap_iR1, ap_iR2, int1_i, ap_gNm, ap_gTp, ap_gAll_nil, ap_gAll, semR_nx, semR_rt, List.getElem?_cons_zero, List.getElem?_cons_succ, List.set_cons_zero, List.set_cons_succ, List.length_cons, List.length_nil, if_true, if_false, Bool.not_true, Bool.not_false, Bool.false_eq_true, List.append_nil, List.nil_append, List.cons_append, reduceIte, isi_ii, isi_ib, isi_bi, isi_bb, isi_tt, isi_tl, isi_ll, isi_lt, isi_ss, and_d, or_d, and_b, or_b, Bool.or_false, Bool.false_or, Bool.or_true, Bool.true_or, Bool.and_true, Bool.true_and, Bool.and_false, Bool.false_and, wipe_nil, wipe_cons, D_nat, D_int, Nat.reduceAdd, Nat.reduceLeDiff, lm_ok, add_t, add_of, add_ff, add_df, add_dd, add_od, add_fd, Int.cast_ofNat_Int, Int.natCast_zero, Int.natCast_one, Nat.zero_add, Nat.zero_le, stoG_own, stoG_dc, stoK_int, ap_sDic, fz1_dc, ixD1_some, ix_dic, ix_dc, ap_eTmp, scal_i, q, decide_false]
      · unfold lstep
        rw [hh]
        dsimp only
        split
        · have hg' : Gd s.1 n one (one + 1 + x) := hg.up (.inr ⟨rfl, by omega⟩)
          exact (hg'.app (by omega) (by omega) (by omega) (by omega)).up (.inr ⟨rfl, by omega⟩)
        · rw [List.append_nil]
          exact hg.up (.inr ⟨rfl, by omega⟩)
      · unfold lstep
        rw [hh]
        dsimp only
        rw [List.length_append]
        split
        · simp; omega
        · simp; omega
  obtain ⟨h1, h2, h3⟩ := lp
  rw [List.length_range] at h2 h3
  exact ⟨h1, h2.up (.inl (by omega)), by omega⟩
theorem e25 {more mt : Int} (hm : 0 ≤ more) (t2 : 2 ≤ mt) (t6 : mt ≤ 6) : ∃ W R, s__law_league [.int more, .int mt] = .ok (lg W R) ∧ Ok W R ∧ (W.length : Int) ≤ mt := by
  have te : mt - 1 ≠ 0 := by omega
  have tp : 0 < mt - 1 := by omega
  have g1 := Int.emod_nonneg more te
  have g2 := Int.emod_lt_of_pos more tp
  obtain ⟨n, hn⟩ : ∃ n : Nat, 2 + more % (mt - 1) = (n : Int) := ⟨(2 + more % (mt - 1)).toNat, by omega⟩
  have n2 : 2 ≤ n := by omega
  have n6 : n ≤ 6 := by omega
  have m3 : 0 ≤ more / 8 % 3 ∧ more / 8 % 3 < 3 := by omega
  obtain ⟨p1, p2⟩ := pick3_in m3.1 m3.2
  have a3 : atI [PyData.int 3, .int 6, .int 61] (more / 8 % 3) = some (.int (pick3 (more / 8 % 3))) := at_pick (xs := [3, 6, 61]) m3.1 (by simpa using m3.2)
  have b6 : b62 (n : Int) = true := b62_in (by omega) (by omega)
  have k0 (l1 l3 l4 l5 l6 l7 l8 : L) : q__law_league_0 [.d (.int more), l1, .d (.int (n : Int)), l3, l4, l5, l6, l7, l8] = .ok (.fr (((List.range n).map fun (i : Nat) => dr more (i : Int) % pick3 (more / 8 % 3)).map .int)) := by
    rw [List.map_map]
    refine eLc_map (α := Nat) (xs := List.range n) (fun i => .int (i : Int)) _ (by simp only [ap_sSeq, ap_sNil, ap_sRet, ap_sRetN, ap_sCt, ap_sBk, ap_sRaise, ap_sExp, ap_sAsg, putL_d, putL_fr, ap_sIf, ap_sFor, ap_sUnp, un1_ok, ap_sPar, par2_nx, ap_sApp, ap_sExt, ext2_fr, ext2_d, ap_onOwn, on1_own, ap_sSto, sto2_int, sto3_some, fz1_d, fz1_un, fz1_own, ap_fzE_nil, ap_fzE, sq_nx, sq_rt, sq_bk, sq_ct, sq_ex, sq_stuck, okb, exb, stb, ap_eC, vr_d, vr_own, ap_eVar, ap_eBin, ap_eUn, ap_aNil, ap_aCons, ap_eFz, fzL_d, fzL_fr, fz_d, fz_fr, rd_d, rd_fr, rd_own, allD_nil, allD_cons, ap_eTup, ap_eLst, ap_eCall, ap_eBi, boolL_d, ap_tVal, ap_tAn, ap_tOr, ap_tNt, ap_tTrue, ap_eIf, ap_eAn, ap_eOr, ap_eNt, ap_eChain, ap_okB, ap_okI, add_i, sub_i, mul_i, lt_i, le_i, gt_i, ge_i, bLen_t, bLen_l, bLen_f, bLen_o, bLen_s, bInt_i, bInt_b, bList_t, bList_l, bList_f, bList_o, bTuple_t, bTuple_l, bTuple_f, bTuple_o, bMax_2, bMin_2, ix1_some, ix_t, ix_l, ix_f, ix_o, ix_s, at_0, at_1, at_2, ap_oNone, o1_i, ap_oSome, ap_eSl, sl_t, sl_l, sl_f, sl_o, itL_t, itL_l, ap_iEx, ap_iEn, ap_iZp, zipL_t, zipL_l, zipL_lt, ap_iR1, ap_iR2, int1_i, ap_gNm, ap_gTp, ap_gAll_nil, ap_gAll, semR_nx, semR_rt, List.getElem?_cons_zero, List.getElem?_cons_succ, List.set_cons_zero, List.set_cons_succ, List.length_cons, List.length_nil, if_true, if_false, Bool.not_true, Bool.not_false, Bool.false_eq_true, List.append_nil, List.nil_append, List.cons_append, reduceIte, isi_ii, isi_ib, isi_bi, isi_bb, isi_tt, isi_tl, isi_ll, isi_lt, isi_ss, and_d, or_d, and_b, or_b, Bool.or_false, Bool.false_or, Bool.or_true, Bool.true_or, Bool.and_true, Bool.true_and, Bool.and_false, Bool.false_and, wipe_nil, wipe_cons, D_nat, D_int, Nat.reduceAdd, Nat.reduceLeDiff, lm_ok, add_t, add_of, add_ff, add_df, add_dd, add_od, add_fd, Int.cast_ofNat_Int, Int.natCast_zero, Int.natCast_one, Nat.zero_add, Nat.zero_le, stoG_own, stoG_dc, stoK_int, ap_sDic, fz1_dc, ixD1_some, ix_dic, ix_dc, ap_eTmp, scal_i, b6, Int.toNat_natCast]; rw [rng0]) rfl (by simp only [cap, List.length_range]; omega) fun y hx => ⟨_, rfl, ?_⟩
    simp only [ap_sSeq, ap_sNil, ap_sRet, ap_sRetN, ap_sCt, ap_sBk, ap_sRaise, ap_sExp, ap_sAsg, putL_d, putL_fr, ap_sIf, ap_sFor, ap_sUnp, un1_ok, ap_sPar, par2_nx, ap_sApp, ap_sExt, ext2_fr, ext2_d, ap_onOwn, on1_own, ap_sSto, sto2_int, sto3_some, fz1_d, fz1_un, fz1_own, ap_fzE_nil, ap_fzE, sq_nx, sq_rt, sq_bk, sq_ct, sq_ex, sq_stuck, okb, exb, stb, ap_eC, vr_d, vr_own, ap_eVar, ap_eBin, ap_eUn, ap_aNil, ap_aCons, ap_eFz, fzL_d, fzL_fr, fz_d, fz_fr, rd_d, rd_fr, rd_own, allD_nil, allD_cons, ap_eTup, ap_eLst, ap_eCall, ap_eBi, boolL_d, ap_tVal, ap_tAn, ap_tOr, ap_tNt, ap_tTrue, ap_eIf, ap_eAn, ap_eOr, ap_eNt, ap_eChain, ap_okB, ap_okI, add_i, sub_i, mul_i, lt_i, le_i, gt_i, ge_i, bLen_t, bLen_l, bLen_f, bLen_o, bLen_s, bInt_i, bInt_b, bList_t, bList_l, bList_f, bList_o, bTuple_t, bTuple_l, bTuple_f, bTuple_o, bMax_2, bMin_2, ix1_some, ix_t, ix_l, ix_f, ix_o, ix_s, at_0, at_1, at_2, ap_oNone, o1_i, ap_oSome, ap_eSl, sl_t, sl_l, sl_f, sl_o, itL_t, itL_l, ap_iEx, ap_iEn, ap_iZp, zipL_t, zipL_l, zipL_lt, ap_iR1, ap_iR2, int1_i, ap_gNm, ap_gTp, ap_gAll_nil, ap_gAll, semR_nx, semR_rt, List.getElem?_cons_zero, List.getElem?_cons_succ, List.set_cons_zero, List.set_cons_succ, List.length_cons, List.length_nil, if_true, if_false, Bool.not_true, Bool.not_false, Bool.false_eq_true, List.append_nil, List.nil_append, List.cons_append, reduceIte, isi_ii, isi_ib, isi_bi, isi_bb, isi_tt, isi_tl, isi_ll, isi_lt, isi_ss, and_d, or_d, and_b, or_b, Bool.or_false, Bool.false_or, Bool.or_true, Bool.true_or, Bool.and_true, Bool.true_and, Bool.and_false, Bool.false_and, wipe_nil, wipe_cons, D_nat, D_int, Nat.reduceAdd, Nat.reduceLeDiff, lm_ok, add_t, add_of, add_ff, add_df, add_dd, add_od, add_fd, Int.cast_ofNat_Int, Int.natCast_zero, Int.natCast_one, Nat.zero_add, Nat.zero_le, stoG_own, stoG_dc, stoK_int, ap_sDic, fz1_dc, ixD1_some, ix_dic, ix_dc, ap_eTmp, scal_i, e24, div_i (show (0 : Int) < 8 by decide) (k500 (by decide) (by decide)), mod_i (show (0 : Int) < 3 by decide), a3, mod_i (show 0 < pick3 (more / 8 % 3) by omega)]
    rfl
  generalize hW : ((List.range n).map fun (i : Nat) => dr more (i : Int) % pick3 (more / 8 % 3)) = W at k0
  have lp := forGo_T (α := Nat) (σ := Pst3) (g := gNm 5) (body := b__law_league_2) (fun i => .int (i : Int))
    (fun s => [L.d (.int more), .d (.int mt), .d (.int (n : Int)), .d (.tuple (W.map .int)), .own (s.1.map Dt.D), s.2.1, s.2.2.1, s.2.2.2, .un]) (lstep2 more n) (fun i s => Gd s.1 n i 0 ∧ s.1.length ≤ 6 * i) (xs := List.range n) (n := 0) (s := ([], .un, .un, .un))
    ⟨Gd.nil _ _ _, Nat.le_refl _⟩ fun i s x hx hi => by
      have e : x = i ∧ i < n := by
        have h1 := List.getElem?_eq_some_iff.mp hx
        obtain ⟨h1, h2⟩ := h1
        rw [List.getElem_range] at h2
        rw [List.length_range] at h1
        exact ⟨h2.symm, h1⟩
      obtain ⟨rfl, hi2⟩ := e
      rw [Nat.zero_add] at hi
      obtain ⟨hg, hl2⟩ := hi
      obtain ⟨r1, r2, r3⟩ := lp_inner (more := more) (W := .tuple (W.map .int)) n6 hi2 (L0 := 6 * x) (by omega) (s.1, s.2.2.1, s.2.2.2) hg hl2
      have c1 : (((n : Int) - ((x : Int) + 1)).toNat) = n - x - 1 := by omega
      have bx : b62 ((x : Int) + 1) = true := b62_in (by omega) (by omega)
      refine ⟨_, rfl, .inl ?_, ?_, ?_⟩
      · rw [b__law_league_2]
        simp only [ap_sSeq, ap_sNil, ap_sRet, ap_sRetN, ap_sCt, ap_sBk, ap_sRaise, ap_sExp, ap_sAsg, putL_d, putL_fr, ap_sIf, ap_sFor, ap_sUnp, un1_ok, ap_sPar, par2_nx, ap_sApp, ap_sExt, ext2_fr, ext2_d, ap_onOwn, on1_own, ap_sSto, sto2_int, sto3_some, fz1_d, fz1_un, fz1_own, ap_fzE_nil, ap_fzE, sq_nx, sq_rt, sq_bk, sq_ct, sq_ex, sq_stuck, okb, exb, stb, ap_eC, vr_d, vr_own, ap_eVar, ap_eBin, ap_eUn, ap_aNil, ap_aCons, ap_eFz, fzL_d, fzL_fr, fz_d, fz_fr, rd_d, rd_fr, rd_own, allD_nil, allD_cons, ap_eTup, ap_eLst, ap_eCall, ap_eBi, boolL_d, ap_tVal, ap_tAn, ap_tOr, ap_tNt, ap_tTrue, ap_eIf, ap_eAn, ap_eOr, ap_eNt, ap_eChain, ap_okB, ap_okI, add_i, sub_i, mul_i, lt_i, le_i, gt_i, ge_i, bLen_t, bLen_l, bLen_f, bLen_o, bLen_s, bInt_i, bInt_b, bList_t, bList_l, bList_f, bList_o, bTuple_t, bTuple_l, bTuple_f, bTuple_o, bMax_2, bMin_2, ix1_some, ix_t, ix_l, ix_f, ix_o, ix_s, at_0, at_1, at_2, ap_oNone, o1_i, ap_oSome, ap_eSl, sl_t, sl_l, sl_f, sl_o, itL_t, itL_l, ap_iEx, ap_iEn, ap_iZp, zipL_t, zipL_l, zipL_lt, ap_iR1, ap_iR2, int1_i, ap_gNm, ap_gTp, ap_gAll_nil, ap_gAll, semR_nx, semR_rt, List.getElem?_cons_zero, List.getElem?_cons_succ, List.set_cons_zero, List.set_cons_succ, List.length_cons, List.length_nil, if_true, if_false, Bool.not_true, Bool.not_false, Bool.false_eq_true, List.append_nil, List.nil_append, List.cons_append, reduceIte, isi_ii, isi_ib, isi_bi, isi_bb, isi_tt, isi_tl, isi_ll, isi_lt, isi_ss, and_d, or_d, and_b, or_b, Bool.or_false, Bool.false_or, Bool.or_true, Bool.true_or, Bool.and_true, Bool.true_and, Bool.and_false, Bool.false_and, wipe_nil, wipe_cons, D_nat, D_int, Nat.reduceAdd, Nat.reduceLeDiff, lm_ok, add_t, add_of, add_ff, add_df, add_dd, add_od, add_fd, Int.cast_ofNat_Int, Int.natCast_zero, Int.natCast_one, Nat.zero_add, Nat.zero_le, stoG_own, stoG_dc, stoK_int, ap_sDic, fz1_dc, ixD1_some, ix_dic, ix_dc, ap_eTmp, scal_i, bx, b6, and_self, c1]
        unfold rngD
        rw [r1]
        rfl
      · rw [Nat.zero_add]; exact r2
      · rw [Nat.zero_add]; exact Nat.le_trans r3 (by omega)
  obtain ⟨l1, l2, l3⟩ := lp
  rw [List.length_range] at l2 l3
  rw [Nat.zero_add] at l2 l3
  refine ⟨W, ((List.range n).foldl (lstep2 more n) ([], .un, .un, .un)).1, ?_, ?_, ?lt⟩
  case lt => rw [← hW, List.length_map, List.length_range]; omega
  · rw [e__law_league, f__law_league]
    simp only [List.map_nil] at l1
    simp only [ap_sSeq, ap_sNil, ap_sRet, ap_sRetN, ap_sCt, ap_sBk, ap_sRaise, ap_sExp, ap_sAsg, putL_d, putL_fr, ap_sIf, ap_sFor, ap_sUnp, un1_ok, ap_sPar, par2_nx, ap_sApp, ap_sExt, ext2_fr, ext2_d, ap_onOwn, on1_own, ap_sSto, sto2_int, sto3_some, fz1_d, fz1_un, fz1_own, ap_fzE_nil, ap_fzE, sq_nx, sq_rt, sq_bk, sq_ct, sq_ex, sq_stuck, okb, exb, stb, ap_eC, vr_d, vr_own, ap_eVar, ap_eBin, ap_eUn, ap_aNil, ap_aCons, ap_eFz, fzL_d, fzL_fr, fz_d, fz_fr, rd_d, rd_fr, rd_own, allD_nil, allD_cons, ap_eTup, ap_eLst, ap_eCall, ap_eBi, boolL_d, ap_tVal, ap_tAn, ap_tOr, ap_tNt, ap_tTrue, ap_eIf, ap_eAn, ap_eOr, ap_eNt, ap_eChain, ap_okB, ap_okI, add_i, sub_i, mul_i, lt_i, le_i, gt_i, ge_i, bLen_t, bLen_l, bLen_f, bLen_o, bLen_s, bInt_i, bInt_b, bList_t, bList_l, bList_f, bList_o, bTuple_t, bTuple_l, bTuple_f, bTuple_o, bMax_2, bMin_2, ix1_some, ix_t, ix_l, ix_f, ix_o, ix_s, at_0, at_1, at_2, ap_oNone, o1_i, ap_oSome, ap_eSl, sl_t, sl_l, sl_f, sl_o, itL_t, itL_l, ap_iEx, ap_iEn, ap_iZp, zipL_t, zipL_l, zipL_lt, ap_iR1, ap_iR2, int1_i, ap_gNm, ap_gTp, ap_gAll_nil, ap_gAll, semR_nx, semR_rt, List.getElem?_cons_zero, List.getElem?_cons_succ, List.set_cons_zero, List.set_cons_succ, List.length_cons, List.length_nil, if_true, if_false, Bool.not_true, Bool.not_false, Bool.false_eq_true, List.append_nil, List.nil_append, List.cons_append, reduceIte, isi_ii, isi_ib, isi_bi, isi_bb, isi_tt, isi_tl, isi_ll, isi_lt, isi_ss, and_d, or_d, and_b, or_b, Bool.or_false, Bool.false_or, Bool.or_true, Bool.true_or, Bool.and_true, Bool.true_and, Bool.and_false, Bool.false_and, wipe_nil, wipe_cons, D_nat, D_int, Nat.reduceAdd, Nat.reduceLeDiff, lm_ok, add_t, add_of, add_ff, add_df, add_dd, add_od, add_fd, Int.cast_ofNat_Int, Int.natCast_zero, Int.natCast_one, Nat.zero_add, Nat.zero_le, stoG_own, stoG_dc, stoK_int, ap_sDic, fz1_dc, ixD1_some, ix_dic, ix_dc, ap_eTmp, scal_i, mod_i tp, hn, k0, b6, Int.toNat_natCast, rng0, l1]
  · have lW : W.length = n := by rw [← hW]; simp
    refine ⟨by omega, by omega, fun x hx => ?_, fun x hx => ?_, l2.s, by omega⟩
    · rw [← hW] at hx
      obtain ⟨i, _, rfl⟩ := List.mem_map.mp hx
      have q3 : 0 ≤ dr more (i : Int) % pick3 (more / 8 % 3) := Int.emod_nonneg _ (by omega)
      have q4 : dr more (i : Int) % pick3 (more / 8 % 3) < pick3 (more / 8 % 3) := Int.emod_lt_of_pos _ (by omega)
      omega
    · obtain ⟨h1, h2, h3, h4, _⟩ := l2.r x hx
      exact ⟨h1, by omega, h3, h4⟩
end LG
namespace LG
open PySem PySem.Spec PyProof.Rows L2 PD PG
/-! laws' tops -/
theorem law_top {b : SF} {K : Int} (h0 : 0 ≤ K) (h1 : K ≤ 100) (ns : List Int) (hn : ns.length ≤ 63) (J : List L → Prop) {l1 : L} {e0 : List L} (j0 : J (.d (scr ns) :: l1 :: e0)) (hb : ∀ (k : Nat) (env : List L), J env → ∃ e', b (env.set 1 (.d (.int (k : Int)))) = .ok (.nx e') ∧ J e') :
    ((sSeq (sFor [] (iR1 (eBi bMax (aCons (eC (.int 1)) (aCons (eBi bMin (aCons (eC (.int K)) (aCons (eBi bLen (aCons (eVar 0) aNil)) aNil))) aNil)))) (gNm 1) b) (sSeq (sRet [] (eC (.bool true))) sNil)) (.d (scr ns) :: l1 :: e0)) = .ok (.rt (.bool true)) := by
  obtain ⟨n, hnn, hn2⟩ : ∃ n : Nat, (if (if (ns.length : Int) < K then (ns.length : Int) else K) > 1 then (if (ns.length : Int) < K then (ns.length : Int) else K) else 1) = (n : Int) ∧ n ≤ 63 := by
    refine ⟨(if (if (ns.length : Int) < K then (ns.length : Int) else K) > 1 then (if (ns.length : Int) < K then (ns.length : Int) else K) else 1).toNat, ?_, ?_⟩
    · split <;> split <;> omega
    · split <;> split <;> omega
  have bn : b62 (n : Int) = true := b62_in (by omega) (by omega)
  obtain ⟨e, h1, h2⟩ := forGo_inv (g := gNm 1) (body := b) (xs := (List.range n).map fun (i : Nat) => PyData.int (i : Int)) (n := 0) (env := .d (scr ns) :: l1 :: e0)
    (fun _ env => J env) (fun i x env hx hi => by
      rw [List.getElem?_map] at hx
      obtain ⟨j, hj, rfl⟩ := Option.map_eq_some_iff.mp hx
      obtain ⟨e', q1, q2⟩ := hb j env hi
      exact ⟨_, e', rfl, .inl q1, q2⟩) j0
  simp only [ap_sSeq, ap_sNil, ap_sRet, ap_sRetN, ap_sCt, ap_sBk, ap_sRaise, ap_sExp, ap_sAsg, putL_d, putL_fr, ap_sIf, ap_sFor, ap_sUnp, un1_ok, ap_sPar, par2_nx, ap_sApp, ap_sExt, ext2_fr, ext2_d, ap_onOwn, on1_own, ap_sSto, sto2_int, sto3_some, fz1_d, fz1_un, fz1_own, ap_fzE_nil, ap_fzE, sq_nx, sq_rt, sq_bk, sq_ct, sq_ex, sq_stuck, okb, exb, stb, ap_eC, vr_d, vr_own, ap_eVar, ap_eBin, ap_eUn, ap_aNil, ap_aCons, ap_eFz, fzL_d, fzL_fr, fz_d, fz_fr, rd_d, rd_fr, rd_own, allD_nil, allD_cons, ap_eTup, ap_eLst, ap_eCall, ap_eBi, boolL_d, ap_tVal, ap_tAn, ap_tOr, ap_tNt, ap_tTrue, ap_eIf, ap_eAn, ap_eOr, ap_eNt, ap_eChain, ap_okB, ap_okI, add_i, sub_i, mul_i, lt_i, le_i, gt_i, ge_i, bLen_t, bLen_l, bLen_f, bLen_o, bLen_s, bInt_i, bInt_b, bList_t, bList_l, bList_f, bList_o, bTuple_t, bTuple_l, bTuple_f, bTuple_o, bMax_2, bMin_2, ix1_some, ix_t, ix_l, ix_f, ix_o, ix_s, at_0, at_1, at_2, ap_oNone, o1_i, ap_oSome, ap_eSl, sl_t, sl_l, sl_f, sl_o, itL_t, itL_l, ap_iEx, ap_iEn, ap_iZp, zipL_t, zipL_l, zipL_lt, ap_iR1, ap_iR2, int1_i, ap_gNm, ap_gTp, ap_gAll_nil, ap_gAll, semR_nx, semR_rt, List.getElem?_cons_zero, List.getElem?_cons_succ, List.set_cons_zero, List.set_cons_succ, List.length_cons, List.length_nil, if_true, if_false, Bool.not_true, Bool.not_false, Bool.false_eq_true, List.append_nil, List.nil_append, List.cons_append, reduceIte, isi_ii, isi_ib, isi_bi, isi_bb, isi_tt, isi_tl, isi_ll, isi_lt, isi_ss, and_d, or_d, and_b, or_b, Bool.or_false, Bool.false_or, Bool.or_true, Bool.true_or, Bool.and_true, Bool.true_and, Bool.and_false, Bool.false_and, wipe_nil, wipe_cons, D_nat, D_int, Nat.reduceAdd, Nat.reduceLeDiff, lm_ok, add_t, add_of, add_ff, add_df, add_dd, add_od, add_fd, Int.cast_ofNat_Int, Int.natCast_zero, Int.natCast_one, Nat.zero_add, Nat.zero_le, stoG_own, stoG_dc, stoK_int, ap_sDic, fz1_dc, ixD1_some, ix_dic, ix_dc, ap_eTmp, scal_i, hnn, bn, Int.toNat_natCast, rng0, h1]
end LG
namespace L71
open PySem PySem.Spec PyProof.Rows L2 PD PG
def cls : List Str := ["BadChain", "BadLeague", "BadMatch", "BadPlace", "BadRules", "BadSide", "BadText", "Nothing", "TooMany"]
def b_law_0 : SF :=
  (sSeq (sAsg [] 6 (eLst (aCons (eFz (eTold cls (eCall s_worst (aCons (eFz (eVar 5)) (aCons (eFz (eC .none)) aNil))))) aNil)))
  (sSeq (sApp [] 6 (eTold cls (eCall s_sure (aCons (eFz (eVar 5)) (aCons (eFz (eC .none)) aNil)))))
  (sSeq (sApp [] 6 (eTold cls (eCall s_against (aCons (eFz (eVar 5)) (aCons (eFz (eC .none)) (aCons (eFz (eC .none)) aNil))))))
  (sSeq (sIf [] (tVal (eBin (opEq true) (eVar 6) (eBin opMul (eLst (aCons (eFz (eC (.str "BadLeague"))) aNil)) (eC (.int 3)))))
   (sSeq (sRet [] (eC (.bool false))) sNil)
   sNil) sNil))))
def b_law_1 : SF :=
  (sSeq (sIf [] (tVal (eBin (opEq true) (eTold cls (eCall s_worst (aCons (eFz (eVar 3)) (aCons (eFz (eVar 5)) aNil)))) (eC (.str "BadSide"))))
   (sSeq (sRet [] (eC (.bool false))) sNil)
   sNil)
  (sSeq (sIf [] (tVal (eBin (opEq true) (eTold cls (eCall s_against (aCons (eFz (eVar 3)) (aCons (eFz (eVar 5)) (aCons (eFz (eC (.int 0))) aNil))))) (eC (.str "BadSide"))))
   (sSeq (sRet [] (eC (.bool false))) sNil)
   sNil) sNil))
def b_law_2 : SF :=
  (sSeq (sIf [] (tVal (eBin (opEq true) (eTold cls (eCall s_sure (aCons (eFz (eVar 3)) (aCons (eFz (eVar 5)) aNil)))) (eC (.str "BadPlace"))))
   (sSeq (sRet [] (eC (.bool false))) sNil)
   sNil)
  (sSeq (sIf [] (tVal (eBin (opEq true) (eTold cls (eCall s_against (aCons (eFz (eVar 3)) (aCons (eFz (eBin opSub (eVar 4) (eC (.int 1)))) (aCons (eFz (eVar 5)) aNil))))) (eC (.str "BadPlace"))))
   (sSeq (sRet [] (eC (.bool false))) sNil)
   sNil) sNil))
def b_law_3 : SF :=
  (sSeq (sAsg [0, 1, 1] 2 (eCall s__law_drawn (aCons (eFz (eCall s__law_cell (aCons (eFz (eVar 0)) (aCons (eFz (eVar 1)) aNil)))) (aCons (eFz (eVar 1)) aNil))))
  (sSeq (sAsg [2] 3 (eCall s__law_league (aCons (eFz (eVar 2)) (aCons (eFz (eC (.int 6))) aNil))))
  (sSeq (sAsg [] 4 (eBi bLen (aCons (eBin opIx (eVar 3) (eC (.int 0))) aNil)))
  (sSeq (sFor [] (iEx (eLst (aCons (eFz (eC .none)) (aCons (eFz (eTup aNil)) (aCons (eFz (eBin opIx (eVar 3) (eC (.int 0)))) (aCons (eFz (eLst (aCons (eFz (eBin opIx (eVar 3) (eC (.int 0)))) (aCons (eFz (eBin opIx (eVar 3) (eC (.int 1)))) aNil)))) (aCons (eFz (eTup (aCons (eFz (eBin opIx (eVar 3) (eC (.int 0)))) (aCons (eFz (eTup (aCons (eFz (eTup (aCons (eFz (eC (.int 0))) (aCons (eFz (eC (.int 0))) (aCons (eFz (eC (.int 1))) aNil))))) aNil))) aNil)))) (aCons (eFz (eTup (aCons (eFz (eTup (aCons (eFz (eC (.int 1))) aNil))) (aCons (eFz (eTup aNil)) aNil)))) (aCons (eFz (eTup (aCons (eFz (eTup (aCons (eFz (eC (.int 61))) (aCons (eFz (eC (.int 0))) aNil)))) (aCons (eFz (eTup aNil)) aNil)))) aNil))))))))) (gNm 5) b_law_0)
  (sSeq (sFor [4] (iEx (eLst (aCons (eFz (eC (.int (-1)))) (aCons (eFz (eVar 4)) (aCons (eFz (eC .none)) (aCons (eFz (eC (.bool true))) (aCons (eFz (eC (.str "0"))) (aCons (eFz (eTup (aCons (eFz (eC (.int 0))) aNil))) aNil)))))))) (gNm 5) b_law_1)
  (sSeq (sFor [] (iEx (eLst (aCons (eFz (eC (.int 0))) (aCons (eFz (eBin opAdd (eVar 4) (eC (.int 1)))) (aCons (eFz (eC .none)) (aCons (eFz (eC (.bool true))) (aCons (eFz (eC (.str "1"))) aNil))))))) (gNm 5) b_law_2) sNil))))))
def f_law : SF :=
  (sSeq (sFor [] (iR1 (eBi bMax (aCons (eC (.int 1)) (aCons (eBi bMin (aCons (eC (.int 4)) (aCons (eBi bLen (aCons (eVar 0) aNil)) aNil))) aNil)))) (gNm 1) b_law_3)
  (sSeq (sRet [] (eC (.bool true))) sNil))
def s_law : List D → M D := semF 7 f_law
theorem e_law (x0 : PyData) : s_law [x0] = (f_law [.d x0, .un, .un, .un, .un, .un, .un]).bind semR := rfl
end L71
namespace L71
open PySem PySem.Spec PyProof.Rows L2 PD PG LG
theorem tl1 {f : EF} {env : List L} (h : f env = .ex "BadLeague") : eTold cls f env = .ok (.d (.str "BadLeague")) := by
  unfold eTold
  rw [h]
  rfl
theorem tl2 {f : EF} {env : List L} (h : f env = .ex "BadSide") : eTold cls f env = .ok (.d (.str "BadSide")) := by
  unfold eTold
  rw [h]
  rfl
theorem tl3 {f : EF} {env : List L} (h : f env = .ex "BadPlace") : eTold cls f env = .ok (.d (.str "BadPlace")) := by
  unfold eTold
  rw [h]
  rfl
theorem nl {d : PyData} (h : s_is_league [d] = .ok (.bool false)) : s_need_league [d] = .ex "BadLeague" := by
  rw [e_need_league, f_need_league]
  simp only [ap_sSeq, ap_sNil, ap_sRet, ap_sRetN, ap_sCt, ap_sBk, ap_sRaise, ap_sExp, ap_sAsg, putL_d, putL_fr, ap_sIf, ap_sFor, ap_sUnp, un1_ok, ap_sPar, par2_nx, ap_sApp, ap_sExt, ext2_fr, ext2_d, ap_onOwn, on1_own, ap_sSto, sto2_int, sto3_some, fz1_d, fz1_un, fz1_own, ap_fzE_nil, ap_fzE, sq_nx, sq_rt, sq_bk, sq_ct, sq_ex, sq_stuck, okb, exb, stb, ap_eC, vr_d, vr_own, ap_eVar, ap_eBin, ap_eUn, ap_aNil, ap_aCons, ap_eFz, fzL_d, fzL_fr, fz_d, fz_fr, rd_d, rd_fr, rd_own, allD_nil, allD_cons, ap_eTup, ap_eLst, ap_eCall, ap_eBi, boolL_d, ap_tVal, ap_tAn, ap_tOr, ap_tNt, ap_tTrue, ap_eIf, ap_eAn, ap_eOr, ap_eNt, ap_eChain, ap_okB, ap_okI, add_i, sub_i, mul_i, lt_i, le_i, gt_i, ge_i, bLen_t, bLen_l, bLen_f, bLen_o, bLen_s, bInt_i, bInt_b, bList_t, bList_l, bList_f, bList_o, bTuple_t, bTuple_l, bTuple_f, bTuple_o, bMax_2, bMin_2, ix1_some, ix_t, ix_l, ix_f, ix_o, ix_s, at_0, at_1, at_2, ap_oNone, o1_i, ap_oSome, ap_eSl, sl_t, sl_l, sl_f, sl_o, itL_t, itL_l, ap_iEx, ap_iEn, ap_iZp, zipL_t, zipL_l, zipL_lt, ap_iR1, ap_iR2, int1_i, ap_gNm, ap_gTp, ap_gAll_nil, ap_gAll, semR_nx, semR_rt, List.getElem?_cons_zero, List.getElem?_cons_succ, List.set_cons_zero, List.set_cons_succ, List.length_cons, List.length_nil, if_true, if_false, Bool.not_true, Bool.not_false, Bool.false_eq_true, List.append_nil, List.nil_append, List.cons_append, reduceIte, isi_ii, isi_ib, isi_bi, isi_bb, isi_tt, isi_tl, isi_ll, isi_lt, isi_ss, and_d, or_d, and_b, or_b, Bool.or_false, Bool.false_or, Bool.or_true, Bool.true_or, Bool.and_true, Bool.true_and, Bool.and_false, Bool.false_and, wipe_nil, wipe_cons, D_nat, D_int, Nat.reduceAdd, Nat.reduceLeDiff, lm_ok, add_t, add_of, add_ff, add_df, add_dd, add_od, add_fd, Int.cast_ofNat_Int, Int.natCast_zero, Int.natCast_one, Nat.zero_add, Nat.zero_le, stoG_own, stoG_dc, stoK_int, ap_sDic, fz1_dc, ixD1_some, ix_dic, ix_dc, ap_eTmp, scal_i, h]
theorem ns {W : List Int} {R : List LG.Row} {d : PyData} (h : s_is_count [d, .int 0, .int ((W.length : Int) - 1)] = .ok (.bool false)) : s_need_side [lg W R, d] = .ex "BadSide" := by
  rw [e_need_side, f_need_side]
  simp only [ap_sSeq, ap_sNil, ap_sRet, ap_sRetN, ap_sCt, ap_sBk, ap_sRaise, ap_sExp, ap_sAsg, putL_d, putL_fr, ap_sIf, ap_sFor, ap_sUnp, un1_ok, ap_sPar, par2_nx, ap_sApp, ap_sExt, ext2_fr, ext2_d, ap_onOwn, on1_own, ap_sSto, sto2_int, sto3_some, fz1_d, fz1_un, fz1_own, ap_fzE_nil, ap_fzE, sq_nx, sq_rt, sq_bk, sq_ct, sq_ex, sq_stuck, okb, exb, stb, ap_eC, vr_d, vr_own, ap_eVar, ap_eBin, ap_eUn, ap_aNil, ap_aCons, ap_eFz, fzL_d, fzL_fr, fz_d, fz_fr, rd_d, rd_fr, rd_own, allD_nil, allD_cons, ap_eTup, ap_eLst, ap_eCall, ap_eBi, boolL_d, ap_tVal, ap_tAn, ap_tOr, ap_tNt, ap_tTrue, ap_eIf, ap_eAn, ap_eOr, ap_eNt, ap_eChain, ap_okB, ap_okI, add_i, sub_i, mul_i, lt_i, le_i, gt_i, ge_i, bLen_t, bLen_l, bLen_f, bLen_o, bLen_s, bInt_i, bInt_b, bList_t, bList_l, bList_f, bList_o, bTuple_t, bTuple_l, bTuple_f, bTuple_o, bMax_2, bMin_2, ix1_some, ix_t, ix_l, ix_f, ix_o, ix_s, at_0, at_1, at_2, ap_oNone, o1_i, ap_oSome, ap_eSl, sl_t, sl_l, sl_f, sl_o, itL_t, itL_l, ap_iEx, ap_iEn, ap_iZp, zipL_t, zipL_l, zipL_lt, ap_iR1, ap_iR2, int1_i, ap_gNm, ap_gTp, ap_gAll_nil, ap_gAll, semR_nx, semR_rt, List.getElem?_cons_zero, List.getElem?_cons_succ, List.set_cons_zero, List.set_cons_succ, List.length_cons, List.length_nil, if_true, if_false, Bool.not_true, Bool.not_false, Bool.false_eq_true, List.append_nil, List.nil_append, List.cons_append, reduceIte, isi_ii, isi_ib, isi_bi, isi_bb, isi_tt, isi_tl, isi_ll, isi_lt, isi_ss, and_d, or_d, and_b, or_b, Bool.or_false, Bool.false_or, Bool.or_true, Bool.true_or, Bool.and_true, Bool.true_and, Bool.and_false, Bool.false_and, wipe_nil, wipe_cons, D_nat, D_int, Nat.reduceAdd, Nat.reduceLeDiff, lm_ok, add_t, add_of, add_ff, add_df, add_dd, add_od, add_fd, Int.cast_ofNat_Int, Int.natCast_zero, Int.natCast_one, Nat.zero_add, Nat.zero_le, stoG_own, stoG_dc, stoK_int, ap_sDic, fz1_dc, ixD1_some, ix_dic, ix_dc, ap_eTmp, scal_i, h, List.length_map]
theorem np {W : List Int} {R : List LG.Row} {d : PyData} (h : s_is_count [d, .int 1, .int (W.length : Int)] = .ok (.bool false)) : s_need_place [lg W R, d] = .ex "BadPlace" := by
  rw [e_need_place, f_need_place]
  simp only [ap_sSeq, ap_sNil, ap_sRet, ap_sRetN, ap_sCt, ap_sBk, ap_sRaise, ap_sExp, ap_sAsg, putL_d, putL_fr, ap_sIf, ap_sFor, ap_sUnp, un1_ok, ap_sPar, par2_nx, ap_sApp, ap_sExt, ext2_fr, ext2_d, ap_onOwn, on1_own, ap_sSto, sto2_int, sto3_some, fz1_d, fz1_un, fz1_own, ap_fzE_nil, ap_fzE, sq_nx, sq_rt, sq_bk, sq_ct, sq_ex, sq_stuck, okb, exb, stb, ap_eC, vr_d, vr_own, ap_eVar, ap_eBin, ap_eUn, ap_aNil, ap_aCons, ap_eFz, fzL_d, fzL_fr, fz_d, fz_fr, rd_d, rd_fr, rd_own, allD_nil, allD_cons, ap_eTup, ap_eLst, ap_eCall, ap_eBi, boolL_d, ap_tVal, ap_tAn, ap_tOr, ap_tNt, ap_tTrue, ap_eIf, ap_eAn, ap_eOr, ap_eNt, ap_eChain, ap_okB, ap_okI, add_i, sub_i, mul_i, lt_i, le_i, gt_i, ge_i, bLen_t, bLen_l, bLen_f, bLen_o, bLen_s, bInt_i, bInt_b, bList_t, bList_l, bList_f, bList_o, bTuple_t, bTuple_l, bTuple_f, bTuple_o, bMax_2, bMin_2, ix1_some, ix_t, ix_l, ix_f, ix_o, ix_s, at_0, at_1, at_2, ap_oNone, o1_i, ap_oSome, ap_eSl, sl_t, sl_l, sl_f, sl_o, itL_t, itL_l, ap_iEx, ap_iEn, ap_iZp, zipL_t, zipL_l, zipL_lt, ap_iR1, ap_iR2, int1_i, ap_gNm, ap_gTp, ap_gAll_nil, ap_gAll, semR_nx, semR_rt, List.getElem?_cons_zero, List.getElem?_cons_succ, List.set_cons_zero, List.set_cons_succ, List.length_cons, List.length_nil, if_true, if_false, Bool.not_true, Bool.not_false, Bool.false_eq_true, List.append_nil, List.nil_append, List.cons_append, reduceIte, isi_ii, isi_ib, isi_bi, isi_bb, isi_tt, isi_tl, isi_ll, isi_lt, isi_ss, and_d, or_d, and_b, or_b, Bool.or_false, Bool.false_or, Bool.or_true, Bool.true_or, Bool.and_true, Bool.true_and, Bool.and_false, Bool.false_and, wipe_nil, wipe_cons, D_nat, D_int, Nat.reduceAdd, Nat.reduceLeDiff, lm_ok, add_t, add_of, add_ff, add_df, add_dd, add_od, add_fd, Int.cast_ofNat_Int, Int.natCast_zero, Int.natCast_one, Nat.zero_add, Nat.zero_le, stoG_own, stoG_dc, stoK_int, ap_sDic, fz1_dc, ixD1_some, ix_dic, ix_dc, ap_eTmp, scal_i, h, List.length_map]
theorem wl {d x : PyData} (h : s_is_league [d] = .ok (.bool false)) : s_worst [d, x] = .ex "BadLeague" := by
  rw [e_worst, f_worst]
  simp only [ap_sSeq, ap_sNil, ap_sRet, ap_sRetN, ap_sCt, ap_sBk, ap_sRaise, ap_sExp, ap_sAsg, putL_d, putL_fr, ap_sIf, ap_sFor, ap_sUnp, un1_ok, ap_sPar, par2_nx, ap_sApp, ap_sExt, ext2_fr, ext2_d, ap_onOwn, on1_own, ap_sSto, sto2_int, sto3_some, fz1_d, fz1_un, fz1_own, ap_fzE_nil, ap_fzE, sq_nx, sq_rt, sq_bk, sq_ct, sq_ex, sq_stuck, okb, exb, stb, ap_eC, vr_d, vr_own, ap_eVar, ap_eBin, ap_eUn, ap_aNil, ap_aCons, ap_eFz, fzL_d, fzL_fr, fz_d, fz_fr, rd_d, rd_fr, rd_own, allD_nil, allD_cons, ap_eTup, ap_eLst, ap_eCall, ap_eBi, boolL_d, ap_tVal, ap_tAn, ap_tOr, ap_tNt, ap_tTrue, ap_eIf, ap_eAn, ap_eOr, ap_eNt, ap_eChain, ap_okB, ap_okI, add_i, sub_i, mul_i, lt_i, le_i, gt_i, ge_i, bLen_t, bLen_l, bLen_f, bLen_o, bLen_s, bInt_i, bInt_b, bList_t, bList_l, bList_f, bList_o, bTuple_t, bTuple_l, bTuple_f, bTuple_o, bMax_2, bMin_2, ix1_some, ix_t, ix_l, ix_f, ix_o, ix_s, at_0, at_1, at_2, ap_oNone, o1_i, ap_oSome, ap_eSl, sl_t, sl_l, sl_f, sl_o, itL_t, itL_l, ap_iEx, ap_iEn, ap_iZp, zipL_t, zipL_l, zipL_lt, ap_iR1, ap_iR2, int1_i, ap_gNm, ap_gTp, ap_gAll_nil, ap_gAll, semR_nx, semR_rt, List.getElem?_cons_zero, List.getElem?_cons_succ, List.set_cons_zero, List.set_cons_succ, List.length_cons, List.length_nil, if_true, if_false, Bool.not_true, Bool.not_false, Bool.false_eq_true, List.append_nil, List.nil_append, List.cons_append, reduceIte, isi_ii, isi_ib, isi_bi, isi_bb, isi_tt, isi_tl, isi_ll, isi_lt, isi_ss, and_d, or_d, and_b, or_b, Bool.or_false, Bool.false_or, Bool.or_true, Bool.true_or, Bool.and_true, Bool.true_and, Bool.and_false, Bool.false_and, wipe_nil, wipe_cons, D_nat, D_int, Nat.reduceAdd, Nat.reduceLeDiff, lm_ok, add_t, add_of, add_ff, add_df, add_dd, add_od, add_fd, Int.cast_ofNat_Int, Int.natCast_zero, Int.natCast_one, Nat.zero_add, Nat.zero_le, stoG_own, stoG_dc, stoK_int, ap_sDic, fz1_dc, ixD1_some, ix_dic, ix_dc, ap_eTmp, scal_i, nl h]
theorem sl {d x : PyData} (h : s_is_league [d] = .ok (.bool false)) : s_sure [d, x] = .ex "BadLeague" := by
  rw [e_sure, f_sure]
  simp only [ap_sSeq, ap_sNil, ap_sRet, ap_sRetN, ap_sCt, ap_sBk, ap_sRaise, ap_sExp, ap_sAsg, putL_d, putL_fr, ap_sIf, ap_sFor, ap_sUnp, un1_ok, ap_sPar, par2_nx, ap_sApp, ap_sExt, ext2_fr, ext2_d, ap_onOwn, on1_own, ap_sSto, sto2_int, sto3_some, fz1_d, fz1_un, fz1_own, ap_fzE_nil, ap_fzE, sq_nx, sq_rt, sq_bk, sq_ct, sq_ex, sq_stuck, okb, exb, stb, ap_eC, vr_d, vr_own, ap_eVar, ap_eBin, ap_eUn, ap_aNil, ap_aCons, ap_eFz, fzL_d, fzL_fr, fz_d, fz_fr, rd_d, rd_fr, rd_own, allD_nil, allD_cons, ap_eTup, ap_eLst, ap_eCall, ap_eBi, boolL_d, ap_tVal, ap_tAn, ap_tOr, ap_tNt, ap_tTrue, ap_eIf, ap_eAn, ap_eOr, ap_eNt, ap_eChain, ap_okB, ap_okI, add_i, sub_i, mul_i, lt_i, le_i, gt_i, ge_i, bLen_t, bLen_l, bLen_f, bLen_o, bLen_s, bInt_i, bInt_b, bList_t, bList_l, bList_f, bList_o, bTuple_t, bTuple_l, bTuple_f, bTuple_o, bMax_2, bMin_2, ix1_some, ix_t, ix_l, ix_f, ix_o, ix_s, at_0, at_1, at_2, ap_oNone, o1_i, ap_oSome, ap_eSl, sl_t, sl_l, sl_f, sl_o, itL_t, itL_l, ap_iEx, ap_iEn, ap_iZp, zipL_t, zipL_l, zipL_lt, ap_iR1, ap_iR2, int1_i, ap_gNm, ap_gTp, ap_gAll_nil, ap_gAll, semR_nx, semR_rt, List.getElem?_cons_zero, List.getElem?_cons_succ, List.set_cons_zero, List.set_cons_succ, List.length_cons, List.length_nil, if_true, if_false, Bool.not_true, Bool.not_false, Bool.false_eq_true, List.append_nil, List.nil_append, List.cons_append, reduceIte, isi_ii, isi_ib, isi_bi, isi_bb, isi_tt, isi_tl, isi_ll, isi_lt, isi_ss, and_d, or_d, and_b, or_b, Bool.or_false, Bool.false_or, Bool.or_true, Bool.true_or, Bool.and_true, Bool.true_and, Bool.and_false, Bool.false_and, wipe_nil, wipe_cons, D_nat, D_int, Nat.reduceAdd, Nat.reduceLeDiff, lm_ok, add_t, add_of, add_ff, add_df, add_dd, add_od, add_fd, Int.cast_ofNat_Int, Int.natCast_zero, Int.natCast_one, Nat.zero_add, Nat.zero_le, stoG_own, stoG_dc, stoK_int, ap_sDic, fz1_dc, ixD1_some, ix_dic, ix_dc, ap_eTmp, scal_i, nl h]
theorem al {d x y : PyData} (h : s_is_league [d] = .ok (.bool false)) : s_against [d, x, y] = .ex "BadLeague" := by
  rw [e_against, f_against]
  simp only [ap_sSeq, ap_sNil, ap_sRet, ap_sRetN, ap_sCt, ap_sBk, ap_sRaise, ap_sExp, ap_sAsg, putL_d, putL_fr, ap_sIf, ap_sFor, ap_sUnp, un1_ok, ap_sPar, par2_nx, ap_sApp, ap_sExt, ext2_fr, ext2_d, ap_onOwn, on1_own, ap_sSto, sto2_int, sto3_some, fz1_d, fz1_un, fz1_own, ap_fzE_nil, ap_fzE, sq_nx, sq_rt, sq_bk, sq_ct, sq_ex, sq_stuck, okb, exb, stb, ap_eC, vr_d, vr_own, ap_eVar, ap_eBin, ap_eUn, ap_aNil, ap_aCons, ap_eFz, fzL_d, fzL_fr, fz_d, fz_fr, rd_d, rd_fr, rd_own, allD_nil, allD_cons, ap_eTup, ap_eLst, ap_eCall, ap_eBi, boolL_d, ap_tVal, ap_tAn, ap_tOr, ap_tNt, ap_tTrue, ap_eIf, ap_eAn, ap_eOr, ap_eNt, ap_eChain, ap_okB, ap_okI, add_i, sub_i, mul_i, lt_i, le_i, gt_i, ge_i, bLen_t, bLen_l, bLen_f, bLen_o, bLen_s, bInt_i, bInt_b, bList_t, bList_l, bList_f, bList_o, bTuple_t, bTuple_l, bTuple_f, bTuple_o, bMax_2, bMin_2, ix1_some, ix_t, ix_l, ix_f, ix_o, ix_s, at_0, at_1, at_2, ap_oNone, o1_i, ap_oSome, ap_eSl, sl_t, sl_l, sl_f, sl_o, itL_t, itL_l, ap_iEx, ap_iEn, ap_iZp, zipL_t, zipL_l, zipL_lt, ap_iR1, ap_iR2, int1_i, ap_gNm, ap_gTp, ap_gAll_nil, ap_gAll, semR_nx, semR_rt, List.getElem?_cons_zero, List.getElem?_cons_succ, List.set_cons_zero, List.set_cons_succ, List.length_cons, List.length_nil, if_true, if_false, Bool.not_true, Bool.not_false, Bool.false_eq_true, List.append_nil, List.nil_append, List.cons_append, reduceIte, isi_ii, isi_ib, isi_bi, isi_bb, isi_tt, isi_tl, isi_ll, isi_lt, isi_ss, and_d, or_d, and_b, or_b, Bool.or_false, Bool.false_or, Bool.or_true, Bool.true_or, Bool.and_true, Bool.true_and, Bool.and_false, Bool.false_and, wipe_nil, wipe_cons, D_nat, D_int, Nat.reduceAdd, Nat.reduceLeDiff, lm_ok, add_t, add_of, add_ff, add_df, add_dd, add_od, add_fd, Int.cast_ofNat_Int, Int.natCast_zero, Int.natCast_one, Nat.zero_add, Nat.zero_le, stoG_own, stoG_dc, stoK_int, ap_sDic, fz1_dc, ixD1_some, ix_dic, ix_dc, ap_eTmp, scal_i, nl h]
section
variable {W : List Int} {R : List LG.Row}
theorem wS (ok : Ok W R) {d : PyData} (h : s_is_count [d, .int 0, .int ((W.length : Int) - 1)] = .ok (.bool false)) : s_worst [lg W R, d] = .ex "BadSide" := by
  rw [e_worst, f_worst]
  simp only [ap_sSeq, ap_sNil, ap_sRet, ap_sRetN, ap_sCt, ap_sBk, ap_sRaise, ap_sExp, ap_sAsg, putL_d, putL_fr, ap_sIf, ap_sFor, ap_sUnp, un1_ok, ap_sPar, par2_nx, ap_sApp, ap_sExt, ext2_fr, ext2_d, ap_onOwn, on1_own, ap_sSto, sto2_int, sto3_some, fz1_d, fz1_un, fz1_own, ap_fzE_nil, ap_fzE, sq_nx, sq_rt, sq_bk, sq_ct, sq_ex, sq_stuck, okb, exb, stb, ap_eC, vr_d, vr_own, ap_eVar, ap_eBin, ap_eUn, ap_aNil, ap_aCons, ap_eFz, fzL_d, fzL_fr, fz_d, fz_fr, rd_d, rd_fr, rd_own, allD_nil, allD_cons, ap_eTup, ap_eLst, ap_eCall, ap_eBi, boolL_d, ap_tVal, ap_tAn, ap_tOr, ap_tNt, ap_tTrue, ap_eIf, ap_eAn, ap_eOr, ap_eNt, ap_eChain, ap_okB, ap_okI, add_i, sub_i, mul_i, lt_i, le_i, gt_i, ge_i, bLen_t, bLen_l, bLen_f, bLen_o, bLen_s, bInt_i, bInt_b, bList_t, bList_l, bList_f, bList_o, bTuple_t, bTuple_l, bTuple_f, bTuple_o, bMax_2, bMin_2, ix1_some, ix_t, ix_l, ix_f, ix_o, ix_s, at_0, at_1, at_2, ap_oNone, o1_i, ap_oSome, ap_eSl, sl_t, sl_l, sl_f, sl_o, itL_t, itL_l, ap_iEx, ap_iEn, ap_iZp, zipL_t, zipL_l, zipL_lt, ap_iR1, ap_iR2, int1_i, ap_gNm, ap_gTp, ap_gAll_nil, ap_gAll, semR_nx, semR_rt, List.getElem?_cons_zero, List.getElem?_cons_succ, List.set_cons_zero, List.set_cons_succ, List.length_cons, List.length_nil, if_true, if_false, Bool.not_true, Bool.not_false, Bool.false_eq_true, List.append_nil, List.nil_append, List.cons_append, reduceIte, isi_ii, isi_ib, isi_bi, isi_bb, isi_tt, isi_tl, isi_ll, isi_lt, isi_ss, and_d, or_d, and_b, or_b, Bool.or_false, Bool.false_or, Bool.or_true, Bool.true_or, Bool.and_true, Bool.true_and, Bool.and_false, Bool.false_and, wipe_nil, wipe_cons, D_nat, D_int, Nat.reduceAdd, Nat.reduceLeDiff, lm_ok, add_t, add_of, add_ff, add_df, add_dd, add_od, add_fd, Int.cast_ofNat_Int, Int.natCast_zero, Int.natCast_one, Nat.zero_add, Nat.zero_le, stoG_own, stoG_dc, stoK_int, ap_sDic, fz1_dc, ixD1_some, ix_dic, ix_dc, ap_eTmp, scal_i, e4 ok, ns h]
theorem aS (ok : Ok W R) {d y : PyData} (h : s_is_count [d, .int 0, .int ((W.length : Int) - 1)] = .ok (.bool false)) : s_against [lg W R, d, y] = .ex "BadSide" := by
  rw [e_against, f_against]
  simp only [ap_sSeq, ap_sNil, ap_sRet, ap_sRetN, ap_sCt, ap_sBk, ap_sRaise, ap_sExp, ap_sAsg, putL_d, putL_fr, ap_sIf, ap_sFor, ap_sUnp, un1_ok, ap_sPar, par2_nx, ap_sApp, ap_sExt, ext2_fr, ext2_d, ap_onOwn, on1_own, ap_sSto, sto2_int, sto3_some, fz1_d, fz1_un, fz1_own, ap_fzE_nil, ap_fzE, sq_nx, sq_rt, sq_bk, sq_ct, sq_ex, sq_stuck, okb, exb, stb, ap_eC, vr_d, vr_own, ap_eVar, ap_eBin, ap_eUn, ap_aNil, ap_aCons, ap_eFz, fzL_d, fzL_fr, fz_d, fz_fr, rd_d, rd_fr, rd_own, allD_nil, allD_cons, ap_eTup, ap_eLst, ap_eCall, ap_eBi, boolL_d, ap_tVal, ap_tAn, ap_tOr, ap_tNt, ap_tTrue, ap_eIf, ap_eAn, ap_eOr, ap_eNt, ap_eChain, ap_okB, ap_okI, add_i, sub_i, mul_i, lt_i, le_i, gt_i, ge_i, bLen_t, bLen_l, bLen_f, bLen_o, bLen_s, bInt_i, bInt_b, bList_t, bList_l, bList_f, bList_o, bTuple_t, bTuple_l, bTuple_f, bTuple_o, bMax_2, bMin_2, ix1_some, ix_t, ix_l, ix_f, ix_o, ix_s, at_0, at_1, at_2, ap_oNone, o1_i, ap_oSome, ap_eSl, sl_t, sl_l, sl_f, sl_o, itL_t, itL_l, ap_iEx, ap_iEn, ap_iZp, zipL_t, zipL_l, zipL_lt, ap_iR1, ap_iR2, int1_i, ap_gNm, ap_gTp, ap_gAll_nil, ap_gAll, semR_nx, semR_rt, List.getElem?_cons_zero, List.getElem?_cons_succ, List.set_cons_zero, List.set_cons_succ, List.length_cons, List.length_nil, if_true, if_false, Bool.not_true, Bool.not_false, Bool.false_eq_true, List.append_nil, List.nil_append, List.cons_append, reduceIte, isi_ii, isi_ib, isi_bi, isi_bb, isi_tt, isi_tl, isi_ll, isi_lt, isi_ss, and_d, or_d, and_b, or_b, Bool.or_false, Bool.false_or, Bool.or_true, Bool.true_or, Bool.and_true, Bool.true_and, Bool.and_false, Bool.false_and, wipe_nil, wipe_cons, D_nat, D_int, Nat.reduceAdd, Nat.reduceLeDiff, lm_ok, add_t, add_of, add_ff, add_df, add_dd, add_od, add_fd, Int.cast_ofNat_Int, Int.natCast_zero, Int.natCast_one, Nat.zero_add, Nat.zero_le, stoG_own, stoG_dc, stoK_int, ap_sDic, fz1_dc, ixD1_some, ix_dic, ix_dc, ap_eTmp, scal_i, e4 ok, ns h]
theorem sP (ok : Ok W R) {d : PyData} (h : s_is_count [d, .int 1, .int (W.length : Int)] = .ok (.bool false)) : s_sure [lg W R, d] = .ex "BadPlace" := by
  rw [e_sure, f_sure]
  simp only [ap_sSeq, ap_sNil, ap_sRet, ap_sRetN, ap_sCt, ap_sBk, ap_sRaise, ap_sExp, ap_sAsg, putL_d, putL_fr, ap_sIf, ap_sFor, ap_sUnp, un1_ok, ap_sPar, par2_nx, ap_sApp, ap_sExt, ext2_fr, ext2_d, ap_onOwn, on1_own, ap_sSto, sto2_int, sto3_some, fz1_d, fz1_un, fz1_own, ap_fzE_nil, ap_fzE, sq_nx, sq_rt, sq_bk, sq_ct, sq_ex, sq_stuck, okb, exb, stb, ap_eC, vr_d, vr_own, ap_eVar, ap_eBin, ap_eUn, ap_aNil, ap_aCons, ap_eFz, fzL_d, fzL_fr, fz_d, fz_fr, rd_d, rd_fr, rd_own, allD_nil, allD_cons, ap_eTup, ap_eLst, ap_eCall, ap_eBi, boolL_d, ap_tVal, ap_tAn, ap_tOr, ap_tNt, ap_tTrue, ap_eIf, ap_eAn, ap_eOr, ap_eNt, ap_eChain, ap_okB, ap_okI, add_i, sub_i, mul_i, lt_i, le_i, gt_i, ge_i, bLen_t, bLen_l, bLen_f, bLen_o, bLen_s, bInt_i, bInt_b, bList_t, bList_l, bList_f, bList_o, bTuple_t, bTuple_l, bTuple_f, bTuple_o, bMax_2, bMin_2, ix1_some, ix_t, ix_l, ix_f, ix_o, ix_s, at_0, at_1, at_2, ap_oNone, o1_i, ap_oSome, ap_eSl, sl_t, sl_l, sl_f, sl_o, itL_t, itL_l, ap_iEx, ap_iEn, ap_iZp, zipL_t, zipL_l, zipL_lt, ap_iR1, ap_iR2, int1_i, ap_gNm, ap_gTp, ap_gAll_nil, ap_gAll, semR_nx, semR_rt, List.getElem?_cons_zero, List.getElem?_cons_succ, List.set_cons_zero, List.set_cons_succ, List.length_cons, List.length_nil, if_true, if_false, Bool.not_true, Bool.not_false, Bool.false_eq_true, List.append_nil, List.nil_append, List.cons_append, reduceIte, isi_ii, isi_ib, isi_bi, isi_bb, isi_tt, isi_tl, isi_ll, isi_lt, isi_ss, and_d, or_d, and_b, or_b, Bool.or_false, Bool.false_or, Bool.or_true, Bool.true_or, Bool.and_true, Bool.true_and, Bool.and_false, Bool.false_and, wipe_nil, wipe_cons, D_nat, D_int, Nat.reduceAdd, Nat.reduceLeDiff, lm_ok, add_t, add_of, add_ff, add_df, add_dd, add_od, add_fd, Int.cast_ofNat_Int, Int.natCast_zero, Int.natCast_one, Nat.zero_add, Nat.zero_le, stoG_own, stoG_dc, stoK_int, ap_sDic, fz1_dc, ixD1_some, ix_dic, ix_dc, ap_eTmp, scal_i, e4 ok, np h]
theorem aP (ok : Ok W R) {d : PyData} (h : s_is_count [d, .int 1, .int (W.length : Int)] = .ok (.bool false)) : s_against [lg W R, .int ((W.length : Int) - 1), d] = .ex "BadPlace" := by
  have hs : s_need_side [lg W R, .int ((W.length : Int) - 1)] = .ok .none := by
    have h2 := ok.n2
    have e : ((W.length : Int) - 1) = ((W.length - 1 : Nat) : Int) := by omega
    rw [e]
    exact e4s (by omega)
  rw [e_against, f_against]
  simp only [ap_sSeq, ap_sNil, ap_sRet, ap_sRetN, ap_sCt, ap_sBk, ap_sRaise, ap_sExp, ap_sAsg, putL_d, putL_fr, ap_sIf, ap_sFor, ap_sUnp, un1_ok, ap_sPar, par2_nx, ap_sApp, ap_sExt, ext2_fr, ext2_d, ap_onOwn, on1_own, ap_sSto, sto2_int, sto3_some, fz1_d, fz1_un, fz1_own, ap_fzE_nil, ap_fzE, sq_nx, sq_rt, sq_bk, sq_ct, sq_ex, sq_stuck, okb, exb, stb, ap_eC, vr_d, vr_own, ap_eVar, ap_eBin, ap_eUn, ap_aNil, ap_aCons, ap_eFz, fzL_d, fzL_fr, fz_d, fz_fr, rd_d, rd_fr, rd_own, allD_nil, allD_cons, ap_eTup, ap_eLst, ap_eCall, ap_eBi, boolL_d, ap_tVal, ap_tAn, ap_tOr, ap_tNt, ap_tTrue, ap_eIf, ap_eAn, ap_eOr, ap_eNt, ap_eChain, ap_okB, ap_okI, add_i, sub_i, mul_i, lt_i, le_i, gt_i, ge_i, bLen_t, bLen_l, bLen_f, bLen_o, bLen_s, bInt_i, bInt_b, bList_t, bList_l, bList_f, bList_o, bTuple_t, bTuple_l, bTuple_f, bTuple_o, bMax_2, bMin_2, ix1_some, ix_t, ix_l, ix_f, ix_o, ix_s, at_0, at_1, at_2, ap_oNone, o1_i, ap_oSome, ap_eSl, sl_t, sl_l, sl_f, sl_o, itL_t, itL_l, ap_iEx, ap_iEn, ap_iZp, zipL_t, zipL_l, zipL_lt, ap_iR1, ap_iR2, int1_i, ap_gNm, ap_gTp, ap_gAll_nil, ap_gAll, semR_nx, semR_rt, List.getElem?_cons_zero, List.getElem?_cons_succ, List.set_cons_zero, List.set_cons_succ, List.length_cons, List.length_nil, if_true, if_false, Bool.not_true, Bool.not_false, Bool.false_eq_true, List.append_nil, List.nil_append, List.cons_append, reduceIte, isi_ii, isi_ib, isi_bi, isi_bb, isi_tt, isi_tl, isi_ll, isi_lt, isi_ss, and_d, or_d, and_b, or_b, Bool.or_false, Bool.false_or, Bool.or_true, Bool.true_or, Bool.and_true, Bool.true_and, Bool.and_false, Bool.false_and, wipe_nil, wipe_cons, D_nat, D_int, Nat.reduceAdd, Nat.reduceLeDiff, lm_ok, add_t, add_of, add_ff, add_df, add_dd, add_od, add_fd, Int.cast_ofNat_Int, Int.natCast_zero, Int.natCast_one, Nat.zero_add, Nat.zero_le, stoG_own, stoG_dc, stoK_int, ap_sDic, fz1_dc, ixD1_some, ix_dic, ix_dc, ap_eTmp, scal_i, e4 ok, hs, np h]
theorem b0_ok {d : PyData} (h : s_is_league [d] = .ok (.bool false)) (l0 l1 l2 l3 l4 l6 : L) : ∃ m6, b_law_0 [l0, l1, l2, l3, l4, .d d, l6] = .ok (.nx [l0, l1, l2, l3, l4, .d d, m6]) := by
  have z : opMul (.fr [.str "BadLeague"]) (.d (.int 3)) = .ok (.fr [.str "BadLeague", .str "BadLeague", .str "BadLeague"]) := rfl
  have z2 : opEq true (.own [.str "BadLeague", .str "BadLeague", .str "BadLeague"]) (.fr [.str "BadLeague", .str "BadLeague", .str "BadLeague"]) = .ok (.d (.bool false)) := by kernel_rfl
  exact ⟨_, (by
    rw [b_law_0]
    simp only [ap_sSeq, ap_sNil, ap_sRet, ap_sRetN, ap_sCt, ap_sBk, ap_sRaise, ap_sExp, ap_sAsg, putL_d, putL_fr, ap_sIf, ap_sFor, ap_sUnp, un1_ok, ap_sPar, par2_nx, ap_sApp, ap_sExt, ext2_fr, ext2_d, ap_onOwn, on1_own, ap_sSto, sto2_int, sto3_some, fz1_d, fz1_un, fz1_own, ap_fzE_nil, ap_fzE, sq_nx, sq_rt, sq_bk, sq_ct, sq_ex, sq_stuck, okb, exb, stb, ap_eC, vr_d, vr_own, ap_eVar, ap_eBin, ap_eUn, ap_aNil, ap_aCons, ap_eFz, fzL_d, fzL_fr, fz_d, fz_fr, rd_d, rd_fr, rd_own, allD_nil, allD_cons, ap_eTup, ap_eLst, ap_eCall, ap_eBi, boolL_d, ap_tVal, ap_tAn, ap_tOr, ap_tNt, ap_tTrue, ap_eIf, ap_eAn, ap_eOr, ap_eNt, ap_eChain, ap_okB, ap_okI, add_i, sub_i, mul_i, lt_i, le_i, gt_i, ge_i, bLen_t, bLen_l, bLen_f, bLen_o, bLen_s, bInt_i, bInt_b, bList_t, bList_l, bList_f, bList_o, bTuple_t, bTuple_l, bTuple_f, bTuple_o, bMax_2, bMin_2, ix1_some, ix_t, ix_l, ix_f, ix_o, ix_s, at_0, at_1, at_2, ap_oNone, o1_i, ap_oSome, ap_eSl, sl_t, sl_l, sl_f, sl_o, itL_t, itL_l, ap_iEx, ap_iEn, ap_iZp, zipL_t, zipL_l, zipL_lt, ap_iR1, ap_iR2, int1_i, ap_gNm, ap_gTp, ap_gAll_nil, ap_gAll, semR_nx, semR_rt, List.getElem?_cons_zero, List.getElem?_cons_succ, List.set_cons_zero, List.set_cons_succ, List.length_cons, List.length_nil, if_true, if_false, Bool.not_true, Bool.not_false, Bool.false_eq_true, List.append_nil, List.nil_append, List.cons_append, reduceIte, isi_ii, isi_ib, isi_bi, isi_bb, isi_tt, isi_tl, isi_ll, isi_lt, isi_ss, and_d, or_d, and_b, or_b, Bool.or_false, Bool.false_or, Bool.or_true, Bool.true_or, Bool.and_true, Bool.true_and, Bool.and_false, Bool.false_and, wipe_nil, wipe_cons, D_nat, D_int, Nat.reduceAdd, Nat.reduceLeDiff, lm_ok, add_t, add_of, add_ff, add_df, add_dd, add_od, add_fd, Int.cast_ofNat_Int, Int.natCast_zero, Int.natCast_one, Nat.zero_add, Nat.zero_le, stoG_own, stoG_dc, stoK_int, ap_sDic, fz1_dc, ixD1_some, ix_dic, ix_dc, ap_eTmp, scal_i, tl1, wl h, sl h, al h, z, z2]
    rfl)⟩
theorem b1_ok (ok : Ok W R) {d : PyData} (h : s_is_count [d, .int 0, .int ((W.length : Int) - 1)] = .ok (.bool false)) (l0 l1 l2 l4 l6 : L) : b_law_1 [l0, l1, l2, .d (lg W R), l4, .d d, l6] = .ok (.nx [l0, l1, l2, .d (lg W R), l4, .d d, l6]) := by
  have z2 : opEq true (.d (.str "BadSide")) (.d (.str "BadSide")) = .ok (.d (.bool false)) := by kernel_rfl
  rw [b_law_1]
  simp only [ap_sSeq, ap_sNil, ap_sRet, ap_sRetN, ap_sCt, ap_sBk, ap_sRaise, ap_sExp, ap_sAsg, putL_d, putL_fr, ap_sIf, ap_sFor, ap_sUnp, un1_ok, ap_sPar, par2_nx, ap_sApp, ap_sExt, ext2_fr, ext2_d, ap_onOwn, on1_own, ap_sSto, sto2_int, sto3_some, fz1_d, fz1_un, fz1_own, ap_fzE_nil, ap_fzE, sq_nx, sq_rt, sq_bk, sq_ct, sq_ex, sq_stuck, okb, exb, stb, ap_eC, vr_d, vr_own, ap_eVar, ap_eBin, ap_eUn, ap_aNil, ap_aCons, ap_eFz, fzL_d, fzL_fr, fz_d, fz_fr, rd_d, rd_fr, rd_own, allD_nil, allD_cons, ap_eTup, ap_eLst, ap_eCall, ap_eBi, boolL_d, ap_tVal, ap_tAn, ap_tOr, ap_tNt, ap_tTrue, ap_eIf, ap_eAn, ap_eOr, ap_eNt, ap_eChain, ap_okB, ap_okI, add_i, sub_i, mul_i, lt_i, le_i, gt_i, ge_i, bLen_t, bLen_l, bLen_f, bLen_o, bLen_s, bInt_i, bInt_b, bList_t, bList_l, bList_f, bList_o, bTuple_t, bTuple_l, bTuple_f, bTuple_o, bMax_2, bMin_2, ix1_some, ix_t, ix_l, ix_f, ix_o, ix_s, at_0, at_1, at_2, ap_oNone, o1_i, ap_oSome, ap_eSl, sl_t, sl_l, sl_f, sl_o, itL_t, itL_l, ap_iEx, ap_iEn, ap_iZp, zipL_t, zipL_l, zipL_lt, ap_iR1, ap_iR2, int1_i, ap_gNm, ap_gTp, ap_gAll_nil, ap_gAll, semR_nx, semR_rt, List.getElem?_cons_zero, List.getElem?_cons_succ, List.set_cons_zero, List.set_cons_succ, List.length_cons, List.length_nil, if_true, if_false, Bool.not_true, Bool.not_false, Bool.false_eq_true, List.append_nil, List.nil_append, List.cons_append, reduceIte, isi_ii, isi_ib, isi_bi, isi_bb, isi_tt, isi_tl, isi_ll, isi_lt, isi_ss, and_d, or_d, and_b, or_b, Bool.or_false, Bool.false_or, Bool.or_true, Bool.true_or, Bool.and_true, Bool.true_and, Bool.and_false, Bool.false_and, wipe_nil, wipe_cons, D_nat, D_int, Nat.reduceAdd, Nat.reduceLeDiff, lm_ok, add_t, add_of, add_ff, add_df, add_dd, add_od, add_fd, Int.cast_ofNat_Int, Int.natCast_zero, Int.natCast_one, Nat.zero_add, Nat.zero_le, stoG_own, stoG_dc, stoK_int, ap_sDic, fz1_dc, ixD1_some, ix_dic, ix_dc, ap_eTmp, scal_i, tl2, wS ok h, aS ok h, z2]
theorem b2_ok (ok : Ok W R) {d : PyData} (h : s_is_count [d, .int 1, .int (W.length : Int)] = .ok (.bool false)) (l0 l1 l2 l6 : L) : b_law_2 [l0, l1, l2, .d (lg W R), .d (.int (W.length : Int)), .d d, l6] = .ok (.nx [l0, l1, l2, .d (lg W R), .d (.int (W.length : Int)), .d d, l6]) := by
  have z2 : opEq true (.d (.str "BadPlace")) (.d (.str "BadPlace")) = .ok (.d (.bool false)) := by kernel_rfl
  rw [b_law_2]
  simp only [ap_sSeq, ap_sNil, ap_sRet, ap_sRetN, ap_sCt, ap_sBk, ap_sRaise, ap_sExp, ap_sAsg, putL_d, putL_fr, ap_sIf, ap_sFor, ap_sUnp, un1_ok, ap_sPar, par2_nx, ap_sApp, ap_sExt, ext2_fr, ext2_d, ap_onOwn, on1_own, ap_sSto, sto2_int, sto3_some, fz1_d, fz1_un, fz1_own, ap_fzE_nil, ap_fzE, sq_nx, sq_rt, sq_bk, sq_ct, sq_ex, sq_stuck, okb, exb, stb, ap_eC, vr_d, vr_own, ap_eVar, ap_eBin, ap_eUn, ap_aNil, ap_aCons, ap_eFz, fzL_d, fzL_fr, fz_d, fz_fr, rd_d, rd_fr, rd_own, allD_nil, allD_cons, ap_eTup, ap_eLst, ap_eCall, ap_eBi, boolL_d, ap_tVal, ap_tAn, ap_tOr, ap_tNt, ap_tTrue, ap_eIf, ap_eAn, ap_eOr, ap_eNt, ap_eChain, ap_okB, ap_okI, add_i, sub_i, mul_i, lt_i, le_i, gt_i, ge_i, bLen_t, bLen_l, bLen_f, bLen_o, bLen_s, bInt_i, bInt_b, bList_t, bList_l, bList_f, bList_o, bTuple_t, bTuple_l, bTuple_f, bTuple_o, bMax_2, bMin_2, ix1_some, ix_t, ix_l, ix_f, ix_o, ix_s, at_0, at_1, at_2, ap_oNone, o1_i, ap_oSome, ap_eSl, sl_t, sl_l, sl_f, sl_o, itL_t, itL_l, ap_iEx, ap_iEn, ap_iZp, zipL_t, zipL_l, zipL_lt, ap_iR1, ap_iR2, int1_i, ap_gNm, ap_gTp, ap_gAll_nil, ap_gAll, semR_nx, semR_rt, List.getElem?_cons_zero, List.getElem?_cons_succ, List.set_cons_zero, List.set_cons_succ, List.length_cons, List.length_nil, if_true, if_false, Bool.not_true, Bool.not_false, Bool.false_eq_true, List.append_nil, List.nil_append, List.cons_append, reduceIte, isi_ii, isi_ib, isi_bi, isi_bb, isi_tt, isi_tl, isi_ll, isi_lt, isi_ss, and_d, or_d, and_b, or_b, Bool.or_false, Bool.false_or, Bool.or_true, Bool.true_or, Bool.and_true, Bool.true_and, Bool.and_false, Bool.false_and, wipe_nil, wipe_cons, D_nat, D_int, Nat.reduceAdd, Nat.reduceLeDiff, lm_ok, add_t, add_of, add_ff, add_df, add_dd, add_od, add_fd, Int.cast_ofNat_Int, Int.natCast_zero, Int.natCast_one, Nat.zero_add, Nat.zero_le, stoG_own, stoG_dc, stoK_int, ap_sDic, fz1_dc, ixD1_some, ix_dic, ix_dc, ap_eTmp, scal_i, tl3, sP ok h, aP ok h, z2]
end
end L71
namespace L71
open PySem PySem.Spec PyProof.Rows L2 PD PG LG
section
variable {W : List Int} {R : List LG.Row}
theorem l_non : s_is_league [.none] = .ok (.bool false) := by kernel_rfl
theorem l_nil : s_is_league [.tuple []] = .ok (.bool false) := by kernel_rfl
theorem l_one : s_is_league [.tuple [.tuple [.int 1], .tuple []]] = .ok (.bool false) := by kernel_rfl
theorem l_61 : s_is_league [.tuple [.tuple [.int 61, .int 0], .tuple []]] = .ok (.bool false) := by kernel_rfl
theorem l_lst (a b : PyData) : s_is_league [.list [a, b]] = .ok (.bool false) := by kernel_rfl
theorem l_w (ok : Ok W R) : s_is_league [.tuple (W.map .int)] = .ok (.bool false) := by
  have h2 := ok.n2
  have h6 := ok.n6
  have k0 (l1 l2 l3 l4 : L) : q_is_league_0 [L.d (.tuple (W.map .int)), l1, l2, l3, l4] = .ok (.fr (W.map fun _ => .bool false)) := by
    refine eLc_map (α := Int) (xs := W) .int (fun _ => .bool false) rfl rfl (by simp only [cap]; omega) fun y hx => ⟨_, rfl, ?_⟩
    rfl
  have k1 : (W.all fun _ => false) = false := by
    cases W with
    | nil => simp at h2
    | cons a r => rfl
  rw [e_is_league, f_is_league]
  by_cases e : W.length = 2
  · have z2 : opEq true (.d (.int 2)) (.d (.int 2)) = .ok (.d (.bool false)) := ne_D (α := Int) (a := 2) (b := 2) (by decide) rfl rfl
    simp only [ap_sSeq, ap_sNil, ap_sRet, ap_sRetN, ap_sCt, ap_sBk, ap_sRaise, ap_sExp, ap_sAsg, putL_d, putL_fr, ap_sIf, ap_sFor, ap_sUnp, un1_ok, ap_sPar, par2_nx, ap_sApp, ap_sExt, ext2_fr, ext2_d, ap_onOwn, on1_own, ap_sSto, sto2_int, sto3_some, fz1_d, fz1_un, fz1_own, ap_fzE_nil, ap_fzE, sq_nx, sq_rt, sq_bk, sq_ct, sq_ex, sq_stuck, okb, exb, stb, ap_eC, vr_d, vr_own, ap_eVar, ap_eBin, ap_eUn, ap_aNil, ap_aCons, ap_eFz, fzL_d, fzL_fr, fz_d, fz_fr, rd_d, rd_fr, rd_own, allD_nil, allD_cons, ap_eTup, ap_eLst, ap_eCall, ap_eBi, boolL_d, ap_tVal, ap_tAn, ap_tOr, ap_tNt, ap_tTrue, ap_eIf, ap_eAn, ap_eOr, ap_eNt, ap_eChain, ap_okB, ap_okI, add_i, sub_i, mul_i, lt_i, le_i, gt_i, ge_i, bLen_t, bLen_l, bLen_f, bLen_o, bLen_s, bInt_i, bInt_b, bList_t, bList_l, bList_f, bList_o, bTuple_t, bTuple_l, bTuple_f, bTuple_o, bMax_2, bMin_2, ix1_some, ix_t, ix_l, ix_f, ix_o, ix_s, at_0, at_1, at_2, ap_oNone, o1_i, ap_oSome, ap_eSl, sl_t, sl_l, sl_f, sl_o, itL_t, itL_l, ap_iEx, ap_iEn, ap_iZp, zipL_t, zipL_l, zipL_lt, ap_iR1, ap_iR2, int1_i, ap_gNm, ap_gTp, ap_gAll_nil, ap_gAll, semR_nx, semR_rt, List.getElem?_cons_zero, List.getElem?_cons_succ, List.set_cons_zero, List.set_cons_succ, List.length_cons, List.length_nil, if_true, if_false, Bool.not_true, Bool.not_false, Bool.false_eq_true, List.append_nil, List.nil_append, List.cons_append, reduceIte, isi_ii, isi_ib, isi_bi, isi_bb, isi_tt, isi_tl, isi_ll, isi_lt, isi_ss, and_d, or_d, and_b, or_b, Bool.or_false, Bool.false_or, Bool.or_true, Bool.true_or, Bool.and_true, Bool.true_and, Bool.and_false, Bool.false_and, wipe_nil, wipe_cons, D_nat, D_int, Nat.reduceAdd, Nat.reduceLeDiff, lm_ok, add_t, add_of, add_ff, add_df, add_dd, add_od, add_fd, Int.cast_ofNat_Int, Int.natCast_zero, Int.natCast_one, Nat.zero_add, Nat.zero_le, stoG_own, stoG_dc, stoK_int, ap_sDic, fz1_dc, ixD1_some, ix_dic, ix_dc, ap_eTmp, scal_i, List.length_map, e, z2, k0, bAll_p, k1]
  · have z2 : opEq true (.d (.int (W.length : Int))) (.d (.int 2)) = .ok (.d (.bool true)) := by
      rw [ne_D (α := Int) (a := (W.length : Int)) (b := 2) (by decide) rfl rfl, decide_eq_false (by omega)]
      rfl
    simp only [ap_sSeq, ap_sNil, ap_sRet, ap_sRetN, ap_sCt, ap_sBk, ap_sRaise, ap_sExp, ap_sAsg, putL_d, putL_fr, ap_sIf, ap_sFor, ap_sUnp, un1_ok, ap_sPar, par2_nx, ap_sApp, ap_sExt, ext2_fr, ext2_d, ap_onOwn, on1_own, ap_sSto, sto2_int, sto3_some, fz1_d, fz1_un, fz1_own, ap_fzE_nil, ap_fzE, sq_nx, sq_rt, sq_bk, sq_ct, sq_ex, sq_stuck, okb, exb, stb, ap_eC, vr_d, vr_own, ap_eVar, ap_eBin, ap_eUn, ap_aNil, ap_aCons, ap_eFz, fzL_d, fzL_fr, fz_d, fz_fr, rd_d, rd_fr, rd_own, allD_nil, allD_cons, ap_eTup, ap_eLst, ap_eCall, ap_eBi, boolL_d, ap_tVal, ap_tAn, ap_tOr, ap_tNt, ap_tTrue, ap_eIf, ap_eAn, ap_eOr, ap_eNt, ap_eChain, ap_okB, ap_okI, add_i, sub_i, mul_i, lt_i, le_i, gt_i, ge_i, bLen_t, bLen_l, bLen_f, bLen_o, bLen_s, bInt_i, bInt_b, bList_t, bList_l, bList_f, bList_o, bTuple_t, bTuple_l, bTuple_f, bTuple_o, bMax_2, bMin_2, ix1_some, ix_t, ix_l, ix_f, ix_o, ix_s, at_0, at_1, at_2, ap_oNone, o1_i, ap_oSome, ap_eSl, sl_t, sl_l, sl_f, sl_o, itL_t, itL_l, ap_iEx, ap_iEn, ap_iZp, zipL_t, zipL_l, zipL_lt, ap_iR1, ap_iR2, int1_i, ap_gNm, ap_gTp, ap_gAll_nil, ap_gAll, semR_nx, semR_rt, List.getElem?_cons_zero, List.getElem?_cons_succ, List.set_cons_zero, List.set_cons_succ, List.length_cons, List.length_nil, if_true, if_false, Bool.not_true, Bool.not_false, Bool.false_eq_true, List.append_nil, List.nil_append, List.cons_append, reduceIte, isi_ii, isi_ib, isi_bi, isi_bb, isi_tt, isi_tl, isi_ll, isi_lt, isi_ss, and_d, or_d, and_b, or_b, Bool.or_false, Bool.false_or, Bool.or_true, Bool.true_or, Bool.and_true, Bool.true_and, Bool.and_false, Bool.false_and, wipe_nil, wipe_cons, D_nat, D_int, Nat.reduceAdd, Nat.reduceLeDiff, lm_ok, add_t, add_of, add_ff, add_df, add_dd, add_od, add_fd, Int.cast_ofNat_Int, Int.natCast_zero, Int.natCast_one, Nat.zero_add, Nat.zero_le, stoG_own, stoG_dc, stoK_int, ap_sDic, fz1_dc, ixD1_some, ix_dic, ix_dc, ap_eTmp, scal_i, List.length_map, z2]
theorem l_bad (ok : Ok W R) : s_is_league [lg W [⟨0, 0, 1⟩]] = .ok (.bool false) := by
  have h2 := ok.n2
  have h6 := ok.n6
  have hl : s_is_left [Dt.D (⟨0, 0, 1⟩ : LG.Row), .int (W.length : Int)] = .ok (.bool false) := by
    have k3 : opEq true (.d (.int 3)) (.d (.int 3)) = .ok (.d (.bool false)) := ne_D (α := Int) (a := 3) (b := 3) (by decide) rfl rfl
    have k5 (l : L) : q_is_left_0 [L.d (.tuple [.int 0, .int 0, .int 1]), L.d (.int (W.length : Int)), l] = .ok (.fr ([true, true].map .bool)) := by
      refine eLc_map (α := Nat) (xs := [0, 0]) (fun x => .int (x : Int)) (fun _ => .bool true) (by simp only [ap_sSeq, ap_sNil, ap_sRet, ap_sRetN, ap_sCt, ap_sBk, ap_sRaise, ap_sExp, ap_sAsg, putL_d, putL_fr, ap_sIf, ap_sFor, ap_sUnp, un1_ok, ap_sPar, par2_nx, ap_sApp, ap_sExt, ext2_fr, ext2_d, ap_onOwn, on1_own, ap_sSto, sto2_int, sto3_some, fz1_d, fz1_un, fz1_own, ap_fzE_nil, ap_fzE, sq_nx, sq_rt, sq_bk, sq_ct, sq_ex, sq_stuck, okb, exb, stb, ap_eC, vr_d, vr_own, ap_eVar, ap_eBin, ap_eUn, ap_aNil, ap_aCons, ap_eFz, fzL_d, fzL_fr, fz_d, fz_fr, rd_d, rd_fr, rd_own, allD_nil, allD_cons, ap_eTup, ap_eLst, ap_eCall, ap_eBi, boolL_d, ap_tVal, ap_tAn, ap_tOr, ap_tNt, ap_tTrue, ap_eIf, ap_eAn, ap_eOr, ap_eNt, ap_eChain, ap_okB, ap_okI, add_i, sub_i, mul_i, lt_i, le_i, gt_i, ge_i, bLen_t, bLen_l, bLen_f, bLen_o, bLen_s, bInt_i, bInt_b, bList_t, bList_l, bList_f, bList_o, bTuple_t, bTuple_l, bTuple_f, bTuple_o, bMax_2, bMin_2, ix1_some, ix_t, ix_l, ix_f, ix_o, ix_s, at_0, at_1, at_2, ap_oNone, o1_i, ap_oSome, ap_eSl, sl_t, sl_l, sl_f, sl_o, itL_t, itL_l, ap_iEx, ap_iEn, ap_iZp, zipL_t, zipL_l, zipL_lt, ap_iR1, ap_iR2, int1_i, ap_gNm, ap_gTp, ap_gAll_nil, ap_gAll, semR_nx, semR_rt, List.getElem?_cons_zero, List.getElem?_cons_succ, List.set_cons_zero, List.set_cons_succ, List.length_cons, List.length_nil, if_true, if_false, Bool.not_true, Bool.not_false, Bool.false_eq_true, List.append_nil, List.nil_append, List.cons_append, reduceIte, isi_ii, isi_ib, isi_bi, isi_bb, isi_tt, isi_tl, isi_ll, isi_lt, isi_ss, and_d, or_d, and_b, or_b, Bool.or_false, Bool.false_or, Bool.or_true, Bool.true_or, Bool.and_true, Bool.true_and, Bool.and_false, Bool.false_and, wipe_nil, wipe_cons, D_nat, D_int, Nat.reduceAdd, Nat.reduceLeDiff, lm_ok, add_t, add_of, add_ff, add_df, add_dd, add_od, add_fd, Int.cast_ofNat_Int, Int.natCast_zero, Int.natCast_one, Nat.zero_add, Nat.zero_le, stoG_own, stoG_dc, stoK_int, ap_sDic, fz1_dc, ixD1_some, ix_dic, ix_dc, ap_eTmp, scal_i, cut2]; rfl) rfl (by simp [cap]) fun y hx => ⟨_, rfl, ?_⟩
      have hx' : y = 0 := by simpa using hx
      simp only [ap_sSeq, ap_sNil, ap_sRet, ap_sRetN, ap_sCt, ap_sBk, ap_sRaise, ap_sExp, ap_sAsg, putL_d, putL_fr, ap_sIf, ap_sFor, ap_sUnp, un1_ok, ap_sPar, par2_nx, ap_sApp, ap_sExt, ext2_fr, ext2_d, ap_onOwn, on1_own, ap_sSto, sto2_int, sto3_some, fz1_d, fz1_un, fz1_own, ap_fzE_nil, ap_fzE, sq_nx, sq_rt, sq_bk, sq_ct, sq_ex, sq_stuck, okb, exb, stb, ap_eC, vr_d, vr_own, ap_eVar, ap_eBin, ap_eUn, ap_aNil, ap_aCons, ap_eFz, fzL_d, fzL_fr, fz_d, fz_fr, rd_d, rd_fr, rd_own, allD_nil, allD_cons, ap_eTup, ap_eLst, ap_eCall, ap_eBi, boolL_d, ap_tVal, ap_tAn, ap_tOr, ap_tNt, ap_tTrue, ap_eIf, ap_eAn, ap_eOr, ap_eNt, ap_eChain, ap_okB, ap_okI, add_i, sub_i, mul_i, lt_i, le_i, gt_i, ge_i, bLen_t, bLen_l, bLen_f, bLen_o, bLen_s, bInt_i, bInt_b, bList_t, bList_l, bList_f, bList_o, bTuple_t, bTuple_l, bTuple_f, bTuple_o, bMax_2, bMin_2, ix1_some, ix_t, ix_l, ix_f, ix_o, ix_s, at_0, at_1, at_2, ap_oNone, o1_i, ap_oSome, ap_eSl, sl_t, sl_l, sl_f, sl_o, itL_t, itL_l, ap_iEx, ap_iEn, ap_iZp, zipL_t, zipL_l, zipL_lt, ap_iR1, ap_iR2, int1_i, ap_gNm, ap_gTp, ap_gAll_nil, ap_gAll, semR_nx, semR_rt, List.getElem?_cons_zero, List.getElem?_cons_succ, List.set_cons_zero, List.set_cons_succ, List.length_cons, List.length_nil, if_true, if_false, Bool.not_true, Bool.not_false, Bool.false_eq_true, List.append_nil, List.nil_append, List.cons_append, reduceIte, isi_ii, isi_ib, isi_bi, isi_bb, isi_tt, isi_tl, isi_ll, isi_lt, isi_ss, and_d, or_d, and_b, or_b, Bool.or_false, Bool.false_or, Bool.or_true, Bool.true_or, Bool.and_true, Bool.true_and, Bool.and_false, Bool.false_and, wipe_nil, wipe_cons, D_nat, D_int, Nat.reduceAdd, Nat.reduceLeDiff, lm_ok, add_t, add_of, add_ff, add_df, add_dd, add_od, add_fd, Int.cast_ofNat_Int, Int.natCast_zero, Int.natCast_one, Nat.zero_add, Nat.zero_le, stoG_own, stoG_dc, stoK_int, ap_sDic, fz1_dc, ixD1_some, ix_dic, ix_dc, ap_eTmp, scal_i]
      rw [e1t (by omega) (by omega)]
      rfl
    rw [e_is_left, f_is_left, Dr]
    simp only [ap_sSeq, ap_sNil, ap_sRet, ap_sRetN, ap_sCt, ap_sBk, ap_sRaise, ap_sExp, ap_sAsg, putL_d, putL_fr, ap_sIf, ap_sFor, ap_sUnp, un1_ok, ap_sPar, par2_nx, ap_sApp, ap_sExt, ext2_fr, ext2_d, ap_onOwn, on1_own, ap_sSto, sto2_int, sto3_some, fz1_d, fz1_un, fz1_own, ap_fzE_nil, ap_fzE, sq_nx, sq_rt, sq_bk, sq_ct, sq_ex, sq_stuck, okb, exb, stb, ap_eC, vr_d, vr_own, ap_eVar, ap_eBin, ap_eUn, ap_aNil, ap_aCons, ap_eFz, fzL_d, fzL_fr, fz_d, fz_fr, rd_d, rd_fr, rd_own, allD_nil, allD_cons, ap_eTup, ap_eLst, ap_eCall, ap_eBi, boolL_d, ap_tVal, ap_tAn, ap_tOr, ap_tNt, ap_tTrue, ap_eIf, ap_eAn, ap_eOr, ap_eNt, ap_eChain, ap_okB, ap_okI, add_i, sub_i, mul_i, lt_i, le_i, gt_i, ge_i, bLen_t, bLen_l, bLen_f, bLen_o, bLen_s, bInt_i, bInt_b, bList_t, bList_l, bList_f, bList_o, bTuple_t, bTuple_l, bTuple_f, bTuple_o, bMax_2, bMin_2, ix1_some, ix_t, ix_l, ix_f, ix_o, ix_s, at_0, at_1, at_2, ap_oNone, o1_i, ap_oSome, ap_eSl, sl_t, sl_l, sl_f, sl_o, itL_t, itL_l, ap_iEx, ap_iEn, ap_iZp, zipL_t, zipL_l, zipL_lt, ap_iR1, ap_iR2, int1_i, ap_gNm, ap_gTp, ap_gAll_nil, ap_gAll, semR_nx, semR_rt, List.getElem?_cons_zero, List.getElem?_cons_succ, List.set_cons_zero, List.set_cons_succ, List.length_cons, List.length_nil, if_true, if_false, Bool.not_true, Bool.not_false, Bool.false_eq_true, List.append_nil, List.nil_append, List.cons_append, reduceIte, isi_ii, isi_ib, isi_bi, isi_bb, isi_tt, isi_tl, isi_ll, isi_lt, isi_ss, and_d, or_d, and_b, or_b, Bool.or_false, Bool.false_or, Bool.or_true, Bool.true_or, Bool.and_true, Bool.true_and, Bool.and_false, Bool.false_and, wipe_nil, wipe_cons, D_nat, D_int, Nat.reduceAdd, Nat.reduceLeDiff, lm_ok, add_t, add_of, add_ff, add_df, add_dd, add_od, add_fd, Int.cast_ofNat_Int, Int.natCast_zero, Int.natCast_one, Nat.zero_add, Nat.zero_le, stoG_own, stoG_dc, stoK_int, ap_sDic, fz1_dc, ixD1_some, ix_dic, ix_dc, ap_eTmp, scal_i, e1t (i := 1) (lo := 1) (hi := 9) (by decide) (by decide), k3, k5, bAll_f]
    rfl
  have k0 (l1 l2 l3 l4 : L) : q_is_league_0 [L.d (lg W [⟨0, 0, 1⟩]), l1, l2, l3, l4] = .ok (.fr ([PyData.tuple (W.map .int), PyData.tuple (([⟨0, 0, 1⟩] : List LG.Row).map Dt.D)].map fun _ => PyData.bool true)) := by
    refine eLc_map (α := PyData) (xs := [.tuple (W.map .int), .tuple (([⟨0, 0, 1⟩] : List LG.Row).map Dt.D)]) (fun x => x) (fun _ => .bool true) rfl rfl (by simp [cap]) fun y hx => ⟨_, rfl, ?_⟩
    have hx' : y = .tuple (W.map .int) ∨ y = .tuple (([⟨0, 0, 1⟩] : List LG.Row).map Dt.D) := by simpa using hx
    rcases hx' with e | e <;> subst e <;> rfl
  have k1 (l0 l2 l3 l4 : L) : q_is_league_1 [l0, L.d (.tuple (W.map .int)), l2, l3, l4] = .ok (.fr (W.map fun _ => .bool true)) := by
    refine eLc_map (α := Int) (xs := W) .int (fun _ => .bool true) rfl rfl (by simp only [cap]; omega) fun y hx => ⟨_, rfl, ?_⟩
    obtain ⟨a, b⟩ := ok.w y hx
    simp only [ap_sSeq, ap_sNil, ap_sRet, ap_sRetN, ap_sCt, ap_sBk, ap_sRaise, ap_sExp, ap_sAsg, putL_d, putL_fr, ap_sIf, ap_sFor, ap_sUnp, un1_ok, ap_sPar, par2_nx, ap_sApp, ap_sExt, ext2_fr, ext2_d, ap_onOwn, on1_own, ap_sSto, sto2_int, sto3_some, fz1_d, fz1_un, fz1_own, ap_fzE_nil, ap_fzE, sq_nx, sq_rt, sq_bk, sq_ct, sq_ex, sq_stuck, okb, exb, stb, ap_eC, vr_d, vr_own, ap_eVar, ap_eBin, ap_eUn, ap_aNil, ap_aCons, ap_eFz, fzL_d, fzL_fr, fz_d, fz_fr, rd_d, rd_fr, rd_own, allD_nil, allD_cons, ap_eTup, ap_eLst, ap_eCall, ap_eBi, boolL_d, ap_tVal, ap_tAn, ap_tOr, ap_tNt, ap_tTrue, ap_eIf, ap_eAn, ap_eOr, ap_eNt, ap_eChain, ap_okB, ap_okI, add_i, sub_i, mul_i, lt_i, le_i, gt_i, ge_i, bLen_t, bLen_l, bLen_f, bLen_o, bLen_s, bInt_i, bInt_b, bList_t, bList_l, bList_f, bList_o, bTuple_t, bTuple_l, bTuple_f, bTuple_o, bMax_2, bMin_2, ix1_some, ix_t, ix_l, ix_f, ix_o, ix_s, at_0, at_1, at_2, ap_oNone, o1_i, ap_oSome, ap_eSl, sl_t, sl_l, sl_f, sl_o, itL_t, itL_l, ap_iEx, ap_iEn, ap_iZp, zipL_t, zipL_l, zipL_lt, ap_iR1, ap_iR2, int1_i, ap_gNm, ap_gTp, ap_gAll_nil, ap_gAll, semR_nx, semR_rt, List.getElem?_cons_zero, List.getElem?_cons_succ, List.set_cons_zero, List.set_cons_succ, List.length_cons, List.length_nil, if_true, if_false, Bool.not_true, Bool.not_false, Bool.false_eq_true, List.append_nil, List.nil_append, List.cons_append, reduceIte, isi_ii, isi_ib, isi_bi, isi_bb, isi_tt, isi_tl, isi_ll, isi_lt, isi_ss, and_d, or_d, and_b, or_b, Bool.or_false, Bool.false_or, Bool.or_true, Bool.true_or, Bool.and_true, Bool.true_and, Bool.and_false, Bool.false_and, wipe_nil, wipe_cons, D_nat, D_int, Nat.reduceAdd, Nat.reduceLeDiff, lm_ok, add_t, add_of, add_ff, add_df, add_dd, add_od, add_fd, Int.cast_ofNat_Int, Int.natCast_zero, Int.natCast_one, Nat.zero_add, Nat.zero_le, stoG_own, stoG_dc, stoK_int, ap_sDic, fz1_dc, ixD1_some, ix_dic, ix_dc, ap_eTmp, scal_i, e1t a b]
  have k2 (l0 l3 l4 : L) : q_is_league_2 [l0, L.d (.tuple (W.map .int)), L.d (.tuple (([⟨0, 0, 1⟩] : List LG.Row).map Dt.D)), l3, l4] = .ok (.fr (([⟨0, 0, 1⟩] : List LG.Row).map fun _ => .bool false)) := by
    refine eLc_map (α := LG.Row) (xs := [⟨0, 0, 1⟩]) Dt.D (fun _ => .bool false) rfl rfl (by simp [cap]) fun y hx => ⟨_, rfl, ?_⟩
    have hx' : y = ⟨0, 0, 1⟩ := by simpa using hx
    subst hx'
    simp only [ap_sSeq, ap_sNil, ap_sRet, ap_sRetN, ap_sCt, ap_sBk, ap_sRaise, ap_sExp, ap_sAsg, putL_d, putL_fr, ap_sIf, ap_sFor, ap_sUnp, un1_ok, ap_sPar, par2_nx, ap_sApp, ap_sExt, ext2_fr, ext2_d, ap_onOwn, on1_own, ap_sSto, sto2_int, sto3_some, fz1_d, fz1_un, fz1_own, ap_fzE_nil, ap_fzE, sq_nx, sq_rt, sq_bk, sq_ct, sq_ex, sq_stuck, okb, exb, stb, ap_eC, vr_d, vr_own, ap_eVar, ap_eBin, ap_eUn, ap_aNil, ap_aCons, ap_eFz, fzL_d, fzL_fr, fz_d, fz_fr, rd_d, rd_fr, rd_own, allD_nil, allD_cons, ap_eTup, ap_eLst, ap_eCall, ap_eBi, boolL_d, ap_tVal, ap_tAn, ap_tOr, ap_tNt, ap_tTrue, ap_eIf, ap_eAn, ap_eOr, ap_eNt, ap_eChain, ap_okB, ap_okI, add_i, sub_i, mul_i, lt_i, le_i, gt_i, ge_i, bLen_t, bLen_l, bLen_f, bLen_o, bLen_s, bInt_i, bInt_b, bList_t, bList_l, bList_f, bList_o, bTuple_t, bTuple_l, bTuple_f, bTuple_o, bMax_2, bMin_2, ix1_some, ix_t, ix_l, ix_f, ix_o, ix_s, at_0, at_1, at_2, ap_oNone, o1_i, ap_oSome, ap_eSl, sl_t, sl_l, sl_f, sl_o, itL_t, itL_l, ap_iEx, ap_iEn, ap_iZp, zipL_t, zipL_l, zipL_lt, ap_iR1, ap_iR2, int1_i, ap_gNm, ap_gTp, ap_gAll_nil, ap_gAll, semR_nx, semR_rt, List.getElem?_cons_zero, List.getElem?_cons_succ, List.set_cons_zero, List.set_cons_succ, List.length_cons, List.length_nil, if_true, if_false, Bool.not_true, Bool.not_false, Bool.false_eq_true, List.append_nil, List.nil_append, List.cons_append, reduceIte, isi_ii, isi_ib, isi_bi, isi_bb, isi_tt, isi_tl, isi_ll, isi_lt, isi_ss, and_d, or_d, and_b, or_b, Bool.or_false, Bool.false_or, Bool.or_true, Bool.true_or, Bool.and_true, Bool.true_and, Bool.and_false, Bool.false_and, wipe_nil, wipe_cons, D_nat, D_int, Nat.reduceAdd, Nat.reduceLeDiff, lm_ok, add_t, add_of, add_ff, add_df, add_dd, add_od, add_fd, Int.cast_ofNat_Int, Int.natCast_zero, Int.natCast_one, Nat.zero_add, Nat.zero_le, stoG_own, stoG_dc, stoK_int, ap_sDic, fz1_dc, ixD1_some, ix_dic, ix_dc, ap_eTmp, scal_i, List.length_map, hl]
  have z2 : opEq true (.d (.int 2)) (.d (.int 2)) = .ok (.d (.bool false)) := ne_D (α := Int) (a := 2) (b := 2) (by decide) rfl rfl
  have f1 : (([⟨0, 0, 1⟩] : List LG.Row).all fun _ => false) = false := rfl
  rw [e_is_league, f_is_league]
  simp only [ap_sSeq, ap_sNil, ap_sRet, ap_sRetN, ap_sCt, ap_sBk, ap_sRaise, ap_sExp, ap_sAsg, putL_d, putL_fr, ap_sIf, ap_sFor, ap_sUnp, un1_ok, ap_sPar, par2_nx, ap_sApp, ap_sExt, ext2_fr, ext2_d, ap_onOwn, on1_own, ap_sSto, sto2_int, sto3_some, fz1_d, fz1_un, fz1_own, ap_fzE_nil, ap_fzE, sq_nx, sq_rt, sq_bk, sq_ct, sq_ex, sq_stuck, okb, exb, stb, ap_eC, vr_d, vr_own, ap_eVar, ap_eBin, ap_eUn, ap_aNil, ap_aCons, ap_eFz, fzL_d, fzL_fr, fz_d, fz_fr, rd_d, rd_fr, rd_own, allD_nil, allD_cons, ap_eTup, ap_eLst, ap_eCall, ap_eBi, boolL_d, ap_tVal, ap_tAn, ap_tOr, ap_tNt, ap_tTrue, ap_eIf, ap_eAn, ap_eOr, ap_eNt, ap_eChain, ap_okB, ap_okI, add_i, sub_i, mul_i, lt_i, le_i, gt_i, ge_i, bLen_t, bLen_l, bLen_f, bLen_o, bLen_s, bInt_i, bInt_b, bList_t, bList_l, bList_f, bList_o, bTuple_t, bTuple_l, bTuple_f, bTuple_o, bMax_2, bMin_2, ix1_some, ix_t, ix_l, ix_f, ix_o, ix_s, at_0, at_1, at_2, ap_oNone, o1_i, ap_oSome, ap_eSl, sl_t, sl_l, sl_f, sl_o, itL_t, itL_l, ap_iEx, ap_iEn, ap_iZp, zipL_t, zipL_l, zipL_lt, ap_iR1, ap_iR2, int1_i, ap_gNm, ap_gTp, ap_gAll_nil, ap_gAll, semR_nx, semR_rt, List.getElem?_cons_zero, List.getElem?_cons_succ, List.set_cons_zero, List.set_cons_succ, List.length_cons, List.length_nil, if_true, if_false, Bool.not_true, Bool.not_false, Bool.false_eq_true, List.append_nil, List.nil_append, List.cons_append, reduceIte, isi_ii, isi_ib, isi_bi, isi_bb, isi_tt, isi_tl, isi_ll, isi_lt, isi_ss, and_d, or_d, and_b, or_b, Bool.or_false, Bool.false_or, Bool.or_true, Bool.true_or, Bool.and_true, Bool.true_and, Bool.and_false, Bool.false_and, wipe_nil, wipe_cons, D_nat, D_int, Nat.reduceAdd, Nat.reduceLeDiff, lm_ok, add_t, add_of, add_ff, add_df, add_dd, add_od, add_fd, Int.cast_ofNat_Int, Int.natCast_zero, Int.natCast_one, Nat.zero_add, Nat.zero_le, stoG_own, stoG_dc, stoK_int, ap_sDic, fz1_dc, ixD1_some, ix_dic, ix_dc, ap_eTmp, scal_i, z2, k0, k1, k2, bAll_p, all_T, f1, List.length_map, decide_eq_true (show (2 : Int) ≤ (W.length : Int) by omega), decide_eq_true (show (W.length : Int) ≤ 6 by omega)]
theorem cN (lo hi : PyData) : s_is_count [.none, lo, hi] = .ok (.bool false) := by kernel_rfl
theorem cB (lo hi : PyData) : s_is_count [.bool true, lo, hi] = .ok (.bool false) := by kernel_rfl
theorem cS (x : Str) (lo hi : PyData) : s_is_count [.str x, lo, hi] = .ok (.bool false) := by kernel_rfl
theorem cT (x : List PyData) (lo hi : PyData) : s_is_count [.tuple x, lo, hi] = .ok (.bool false) := by kernel_rfl
theorem cI {i lo hi : Int} (h : ¬ (lo ≤ i ∧ i ≤ hi)) : s_is_count [.int i, .int lo, .int hi] = .ok (.bool false) := by
  rw [e1]
  by_cases h1 : lo ≤ i
  · rw [decide_eq_true h1, decide_eq_false (fun z => h ⟨h1, z⟩)]
    rfl
  · rw [decide_eq_false h1]
    rfl
end
abbrev bads (W : List Int) (R : List LG.Row) : List PyData := [.none, .tuple [], .tuple (W.map .int), .list [.tuple (W.map .int), .tuple (R.map Dt.D)], lg W [⟨0, 0, 1⟩], .tuple [.tuple [.int 1], .tuple []], .tuple [.tuple [.int 61, .int 0], .tuple []]]
abbrev sides (W : List Int) : List PyData := [.int (-1), .int (W.length : Int), .none, .bool true, .str "0", .tuple [.int 0]]
abbrev plcs (W : List Int) : List PyData := [.int 0, .int ((W.length : Int) + 1), .none, .bool true, .str "1"]
section
variable {W : List Int} {R : List LG.Row}
theorem loop0 (ok : Ok W R) (l0 l1 l2 l3 l4 l5 l6 : L) : ∃ m5 m6, forGo (gNm 5) b_law_0 (bads W R) [l0, l1, l2, l3, l4, l5, l6] = .ok (.nx [l0, l1, l2, l3, l4, m5, m6]) := by
  obtain ⟨e, lp, m5, m6, rfl⟩ := forGo_inv (g := gNm 5) (body := b_law_0) (xs := bads W R) (n := 0) (env := [l0, l1, l2, l3, l4, l5, l6]) (fun _ env => ∃ m5 m6, env = [l0, l1, l2, l3, l4, m5, m6]) (fun i x env hx hi => by
    obtain ⟨m5, m6, rfl⟩ := hi
    have hx' : x = .none ∨ x = .tuple [] ∨ x = .tuple (W.map .int) ∨ x = .list [.tuple (W.map .int), .tuple (R.map Dt.D)] ∨ x = lg W [⟨0, 0, 1⟩] ∨ x = .tuple [.tuple [.int 1], .tuple []] ∨ x = .tuple [.tuple [.int 61, .int 0], .tuple []] := by simpa [bads] using List.mem_of_getElem? hx
    have hf : s_is_league [x] = .ok (.bool false) := by
      rcases hx' with e | e | e | e | e | e | e <;> subst e
      · exact l_non
      · exact l_nil
      · exact l_w ok
      · exact l_lst _ _
      · exact l_bad ok
      · exact l_one
      · exact l_61
    obtain ⟨p6, hp⟩ := b0_ok hf l0 l1 l2 l3 l4 m6
    exact ⟨_, _, rfl, .inl hp, _, _, rfl⟩) ⟨_, _, rfl⟩
  exact ⟨_, _, lp⟩
theorem loop1 (ok : Ok W R) (l0 l1 l2 l4 l5 l6 : L) : ∃ m5, forGo (gNm 5) b_law_1 (sides W) [l0, l1, l2, .d (lg W R), l4, l5, l6] = .ok (.nx [l0, l1, l2, .d (lg W R), l4, m5, l6]) := by
  obtain ⟨e, lp, m5, rfl⟩ := forGo_inv (g := gNm 5) (body := b_law_1) (xs := sides W) (n := 0) (env := [l0, l1, l2, .d (lg W R), l4, l5, l6]) (fun _ env => ∃ m5, env = [l0, l1, l2, .d (lg W R), l4, m5, l6]) (fun i x env hx hi => by
    obtain ⟨m5, rfl⟩ := hi
    have hx' : x = .int (-1) ∨ x = .int (W.length : Int) ∨ x = .none ∨ x = .bool true ∨ x = .str "0" ∨ x = .tuple [.int 0] := by simpa [sides] using List.mem_of_getElem? hx
    have hf : s_is_count [x, .int 0, .int ((W.length : Int) - 1)] = .ok (.bool false) := by
      rcases hx' with e | e | e | e | e | e <;> subst e
      · exact cI (by omega)
      · exact cI (by omega)
      · exact cN _ _
      · exact cB _ _
      · exact cS _ _ _
      · exact cT _ _ _
    exact ⟨_, _, rfl, .inl (b1_ok ok hf l0 l1 l2 l4 l6), _, rfl⟩) ⟨_, rfl⟩
  exact ⟨_, lp⟩
theorem loop2 (ok : Ok W R) (l0 l1 l2 l5 l6 : L) : ∃ m5, forGo (gNm 5) b_law_2 (plcs W) [l0, l1, l2, .d (lg W R), .d (.int (W.length : Int)), l5, l6] = .ok (.nx [l0, l1, l2, .d (lg W R), .d (.int (W.length : Int)), m5, l6]) := by
  obtain ⟨e, lp, m5, rfl⟩ := forGo_inv (g := gNm 5) (body := b_law_2) (xs := plcs W) (n := 0) (env := [l0, l1, l2, .d (lg W R), .d (.int (W.length : Int)), l5, l6]) (fun _ env => ∃ m5, env = [l0, l1, l2, .d (lg W R), .d (.int (W.length : Int)), m5, l6]) (fun i x env hx hi => by
    obtain ⟨m5, rfl⟩ := hi
    have hx' : x = .int 0 ∨ x = .int ((W.length : Int) + 1) ∨ x = .none ∨ x = .bool true ∨ x = .str "1" := by simpa [plcs] using List.mem_of_getElem? hx
    have hf : s_is_count [x, .int 1, .int (W.length : Int)] = .ok (.bool false) := by
      rcases hx' with e | e | e | e | e <;> subst e
      · exact cI (by omega)
      · exact cI (by omega)
      · exact cN _ _
      · exact cB _ _
      · exact cS _ _ _
    exact ⟨_, _, rfl, .inl (b2_ok ok hf l0 l1 l2 l6), _, rfl⟩) ⟨_, rfl⟩
  exact ⟨_, lp⟩
end
theorem cell_ok (ns : List Int) (hn : ns.length ≤ 63) (k : Nat) (l2 l3 l4 l5 l6 : L) :
    ∃ m2 m3 m4 m5 m6, b_law_3 [(.d (scr ns) : L), .d (.int (k : Int)), l2, l3, l4, l5, l6] = .ok (.nx [(.d (scr ns) : L), .d (.int (k : Int)), m2, m3, m4, m5, m6]) := by
  generalize hmore : dr (cellV ns k) (k : Int) = more
  have m0 : 0 ≤ more := by rw [← hmore]; exact dr_pos _ _
  obtain ⟨W, R, hlg, ok, _⟩ := e25 (more := more) (mt := 6) m0 (by decide) (by decide)
  obtain ⟨a5, a6, lp0⟩ := loop0 ok (.d (scr ns)) (.d (.int (k : Int))) (.d (.int more)) (.d (lg W R)) (.d (.int (W.length : Int))) l5 l6
  obtain ⟨b5, lp1⟩ := loop1 ok (.d (scr ns)) (.d (.int (k : Int))) (.d (.int more)) (.d (.int (W.length : Int))) a5 a6
  obtain ⟨d5, lp2⟩ := loop2 ok (.d (scr ns)) (.d (.int (k : Int))) (.d (.int more)) b5 a6
  have q0 : forGo (gNm 5) b_law_0 [.none, .tuple [], .tuple (W.map .int), .list [.tuple (W.map .int), .tuple (R.map Dt.D)], .tuple [.tuple (W.map .int), .tuple [.tuple [.int 0, .int 0, .int 1]]], .tuple [.tuple [.int 1], .tuple []], .tuple [.tuple [.int 61, .int 0], .tuple []]]
      [(.d (scr ns) : L), .d (.int (k : Int)), .d (.int more), .d (lg W R), .d (.int (W.length : Int)), l5, l6] = _ := lp0
  have q1 : forGo (gNm 5) b_law_1 [.int (-1), .int (W.length : Int), .none, .bool true, .str "0", .tuple [.int 0]] [(.d (scr ns) : L), .d (.int (k : Int)), .d (.int more), .d (lg W R), .d (.int (W.length : Int)), a5, a6] = _ := lp1
  have q2 : forGo (gNm 5) b_law_2 [.int 0, .int ((W.length : Int) + 1), .none, .bool true, .str "1"] [(.d (scr ns) : L), .d (.int (k : Int)), .d (.int more), .d (lg W R), .d (.int (W.length : Int)), b5, a6] = _ := lp2
  exact ⟨_, _, _, _, _, (by
    rw [b_law_3]
    simp only [ap_sSeq, ap_sNil, ap_sRet, ap_sRetN, ap_sCt, ap_sBk, ap_sRaise, ap_sExp, ap_sAsg, putL_d, putL_fr, ap_sIf, ap_sFor, ap_sUnp, un1_ok, ap_sPar, par2_nx, ap_sApp, ap_sExt, ext2_fr, ext2_d, ap_onOwn, on1_own, ap_sSto, sto2_int, sto3_some, fz1_d, fz1_un, fz1_own, ap_fzE_nil, ap_fzE, sq_nx, sq_rt, sq_bk, sq_ct, sq_ex, sq_stuck, okb, exb, stb, ap_eC, vr_d, vr_own, ap_eVar, ap_eBin, ap_eUn, ap_aNil, ap_aCons, ap_eFz, fzL_d, fzL_fr, fz_d, fz_fr, rd_d, rd_fr, rd_own, allD_nil, allD_cons, ap_eTup, ap_eLst, ap_eCall, ap_eBi, boolL_d, ap_tVal, ap_tAn, ap_tOr, ap_tNt, ap_tTrue, ap_eIf, ap_eAn, ap_eOr, ap_eNt, ap_eChain, ap_okB, ap_okI, add_i, sub_i, mul_i, lt_i, le_i, gt_i, ge_i, bLen_t, bLen_l, bLen_f, bLen_o, bLen_s, bInt_i, bInt_b, bList_t, bList_l, bList_f, bList_o, bTuple_t, bTuple_l, bTuple_f, bTuple_o, bMax_2, bMin_2, ix1_some, ix_t, ix_l, ix_f, ix_o, ix_s, at_0, at_1, at_2, ap_oNone, o1_i, ap_oSome, ap_eSl, sl_t, sl_l, sl_f, sl_o, itL_t, itL_l, ap_iEx, ap_iEn, ap_iZp, zipL_t, zipL_l, zipL_lt, ap_iR1, ap_iR2, int1_i, ap_gNm, ap_gTp, ap_gAll_nil, ap_gAll, semR_nx, semR_rt, List.getElem?_cons_zero, List.getElem?_cons_succ, List.set_cons_zero, List.set_cons_succ, List.length_cons, List.length_nil, if_true, if_false, Bool.not_true, Bool.not_false, Bool.false_eq_true, List.append_nil, List.nil_append, List.cons_append, reduceIte, isi_ii, isi_ib, isi_bi, isi_bb, isi_tt, isi_tl, isi_ll, isi_lt, isi_ss, and_d, or_d, and_b, or_b, Bool.or_false, Bool.false_or, Bool.or_true, Bool.true_or, Bool.and_true, Bool.true_and, Bool.and_false, Bool.false_and, wipe_nil, wipe_cons, D_nat, D_int, Nat.reduceAdd, Nat.reduceLeDiff, lm_ok, add_t, add_of, add_ff, add_df, add_dd, add_od, add_fd, Int.cast_ofNat_Int, Int.natCast_zero, Int.natCast_one, Nat.zero_add, Nat.zero_le, stoG_own, stoG_dc, stoK_int, ap_sDic, fz1_dc, ixD1_some, ix_dic, ix_dc, ap_eTmp, scal_i, e23 ns k (by omega), e24, hmore, hlg, List.length_map, q0, q1, q2]
    rfl)⟩
theorem law_ok (ns : List Int) (hn : ns.length ≤ 63) : s_law [scr ns] = .ok (.bool true) := by
  rw [e_law, f_law]
  rw [law_top (K := 4) (by decide) (by decide) ns hn (fun env => ∃ l1 l2 l3 l4 l5 l6, env = [(.d (scr ns) : L), l1, l2, l3, l4, l5, l6]) ⟨_, _, _, _, _, _, rfl⟩ fun k env ⟨l1, l2, l3, l4, l5, l6, he⟩ => ?_]
  · rfl
  · subst he
    obtain ⟨m2, m3, m4, m5, m6, hm⟩ := cell_ok ns hn k l2 l3 l4 l5 l6
    exact ⟨_, hm, _, _, _, _, _, _, rfl⟩
end L71
namespace L71
open PySem PySem.Spec PyProof.Rows L2 PD PG
def top (i : Nat) : Stmt := PySem.Challenge.pw_leaguechains_k71_worst_refused.main.body.getD i (.Pass ⟨0, 0, 0, 0⟩)
def qw0 (i : Nat) : Pos := (([⟨128, 4, 128, 14⟩, ⟨128, 18, 128, 28⟩, ⟨128, 29, 128, 35⟩, ⟨128, 37, 128, 45⟩, ⟨128, 18, 128, 46⟩, ⟨128, 48, 128, 58⟩, ⟨128, 59, 128, 65⟩, ⟨128, 67, 128, 76⟩, ⟨128, 48, 128, 77⟩, ⟨128, 79, 128, 89⟩, ⟨128, 90, 128, 96⟩, ⟨128, 98, 128, 106⟩, ⟨128, 79, 128, 107⟩, ⟨128, 109, 128, 119⟩, ⟨128, 120, 128, 126⟩, ⟨128, 128, 128, 136⟩, ⟨128, 109, 128, 137⟩, ⟨128, 17, 128, 138⟩, ⟨128, 4, 128, 138⟩] : List Pos)).getD i ⟨0, 0, 0, 0⟩
def qw1 (i : Nat) : Pos := (([⟨129, 4, 129, 14⟩, ⟨129, 17, 129, 27⟩, ⟨129, 31, 129, 41⟩, ⟨129, 42, 129, 48⟩, ⟨129, 50, 129, 58⟩, ⟨129, 31, 129, 59⟩, ⟨129, 61, 129, 71⟩, ⟨129, 72, 129, 78⟩, ⟨129, 80, 129, 87⟩, ⟨129, 61, 129, 88⟩, ⟨129, 90, 129, 100⟩, ⟨129, 101, 129, 107⟩, ⟨129, 109, 129, 116⟩, ⟨129, 90, 129, 117⟩, ⟨129, 119, 129, 129⟩, ⟨129, 130, 129, 136⟩, ⟨129, 138, 129, 145⟩, ⟨129, 119, 129, 146⟩, ⟨129, 30, 129, 147⟩, ⟨129, 17, 129, 147⟩] : List Pos) ++ ([⟨129, 4, 129, 147⟩] : List Pos)).getD i ⟨0, 0, 0, 0⟩
def qw2 (i : Nat) : Pos := (([⟨130, 4, 130, 14⟩, ⟨130, 4, 130, 21⟩, ⟨130, 22, 130, 32⟩, ⟨130, 33, 130, 39⟩, ⟨130, 41, 130, 48⟩, ⟨130, 22, 130, 49⟩, ⟨130, 4, 130, 50⟩, ⟨130, 4, 130, 50⟩] : List Pos)).getD i ⟨0, 0, 0, 0⟩
def qw3 (i : Nat) : Pos := (([⟨131, 7, 131, 10⟩, ⟨131, 12, 131, 15⟩, ⟨131, 16, 131, 25⟩, ⟨131, 12, 131, 26⟩, ⟨131, 31, 131, 40⟩, ⟨131, 44, 131, 54⟩, ⟨131, 11, 131, 55⟩, ⟨131, 7, 131, 56⟩, ⟨131, 60, 131, 61⟩, ⟨131, 7, 131, 61⟩, ⟨131, 69, 131, 79⟩, ⟨131, 80, 131, 86⟩, ⟨131, 88, 131, 98⟩, ⟨131, 69, 131, 99⟩, ⟨131, 65, 131, 99⟩, ⟨131, 7, 131, 99⟩, ⟨132, 15, 132, 22⟩, ⟨132, 8, 132, 22⟩, ⟨131, 4, 132, 22⟩] : List Pos)).getD i ⟨0, 0, 0, 0⟩
def qw4 (i : Nat) : Pos := (([⟨133, 4, 133, 14⟩, ⟨133, 18, 133, 28⟩, ⟨133, 30, 133, 41⟩, ⟨133, 43, 133, 53⟩, ⟨133, 55, 133, 65⟩, ⟨133, 67, 133, 77⟩, ⟨133, 79, 133, 88⟩, ⟨133, 90, 133, 99⟩, ⟨133, 101, 133, 110⟩, ⟨133, 112, 133, 121⟩, ⟨133, 17, 133, 122⟩, ⟨133, 4, 133, 122⟩] : List Pos)).getD i ⟨0, 0, 0, 0⟩
def qw5 (i : Nat) : Pos := (([⟨134, 11, 134, 21⟩, ⟨134, 22, 134, 32⟩, ⟨134, 22, 134, 38⟩, ⟨134, 39, 134, 43⟩, ⟨134, 22, 134, 44⟩, ⟨134, 11, 134, 45⟩, ⟨134, 4, 134, 45⟩] : List Pos)).getD i ⟨0, 0, 0, 0⟩
theorem w_word : defBody (top 40) = [st1 qw0 ["BadChain", "BadLeague", "BadMatch", "BadPlace"], st2 qw1 ["BadRules", "BadSide", "BadText", "Nothing"], st3 qw2 "TooMany", st4 qw3, st5 qw4 ((["BadChain", "BadLeague", "BadMatch", "BadPlace"] : List Str) ++ (["BadRules", "BadSide", "BadText", "Nothing"] : List Str) ++ (["TooMany"] : List Str)), st6 qw5] := by kernel_rfl
def qt (i : Nat) : Pos := ([⟨137, 15, 137, 24⟩, ⟨137, 15, 137, 26⟩, ⟨137, 8, 137, 26⟩, ⟨138, 11, 138, 22⟩, ⟨139, 15, 139, 24⟩, ⟨139, 25, 139, 31⟩, ⟨139, 15, 139, 32⟩, ⟨139, 8, 139, 32⟩, ⟨138, 4, 139, 32⟩, ⟨136, 4, 139, 32⟩] : List Pos).getD i ⟨0, 0, 0, 0⟩
theorem w_told : defBody (top 41) = tdB qt := by kernel_rfl
theorem t_word {S : Sys} (hF : ∃ fa fd, FunD S.K "_law_word" "_law_word" (defArgs (top 40)) (defBody (top 40)) (defScope (top 40)) [] [] fa fd ∧ S.mg ("_law_word" : Str) = some (.ref fa)) (hblt : ∀ x ∈ bltNames, S.mg x = none) (hve : S.mg ("ValueError" : Str) = none) (hg : ∀ c ∈ cls, S.mg c = some (.ref (S.ca c))) (hca : S.ca = He.ga S.K) (ht : toldB S.K cls = true) : WdAt S 1 cls :=
  wdAt_of hF (fun _ _ _ _ _ _ us hl => match us, hl with | [_], _ => rfl) ⟨rfl, rfl, rfl, by decide +kernel, rfl, by decide +kernel, by decide +kernel⟩ (by decide +kernel) hblt hve hg hca ht fun X p C c hc w => by
    rw [w_word]
    exact pss_word9 (q1 := qw0) (q2 := qw1) (q3 := qw2) (q4 := qw3) (q5 := qw4) (q6 := qw5) (l1 := ["BadChain", "BadLeague", "BadMatch", "BadPlace"]) (l2 := ["BadRules", "BadSide", "BadText", "Nothing"]) (x := "TooMany") w (by decide +kernel) (by decide +kernel) (by decide +kernel) (by decide) (by decide) (wf_by ((by decide +kernel : ∀ c ∈ cls, wfB cls c = true) c hc)) (by decide +kernel) (by decide +kernel)
theorem t_told {S : Sys} (hF : ∃ fa fd, FunD S.K "_law_told" "_law_told" (defArgs (top 41)) (defBody (top 41)) (defScope (top 41)) [] [] fa fd ∧ S.mg ("_law_told" : Str) = some (.ref fa)) (hle : S.mg ("LeagueError" : Str) = some (.ref (S.ca "LeagueError"))) (hca : S.ca = He.ga S.K) (ht : toldB S.K cls = true) : TdAt S cls := by
  rw [w_told] at hF
  exact tdAt_of hF (fun _ _ _ _ _ _ us hl => match us, hl with | [_], _ => rfl) ⟨rfl, rfl, rfl, by decide +kernel, rfl, by decide +kernel, by decide +kernel⟩ (by decide +kernel) (by decide +kernel) (by decide +kernel) (by decide +kernel) hle hca ht
def c_is_count : CC := ⟨["thing", "low", "high"], [], []⟩
theorem r_is_count : compSs (compS c_is_count ⟨defScope (top 15), fun _ => true, false⟩ [] 200 (recN c_is_count 30) 30) (defBody (top 15)) = some f_is_count := by kernel_rfl
def c_is_left : CC := ⟨["thing", "sides", "side"], [⟨"is_count", 3, s_is_count⟩], [("MOST_LEFT", (.int 9))]⟩
theorem r_is_left : compSs (compS c_is_left ⟨defScope (top 16), fun _ => true, false⟩ [] 200 (recN c_is_left 30) 30) (defBody (top 16)) = some f_is_left := by kernel_rfl
def c_is_league : CC := ⟨["thing", "wins", "left", "one", "other"], [⟨"is_count", 3, s_is_count⟩, ⟨"is_left", 2, s_is_left⟩], [("MOST_SIDES", (.int 6)), ("MOST_WINS", (.int 60))]⟩
theorem r_is_league : compSs (compS c_is_league ⟨defScope (top 17), fun _ => true, false⟩ [] 200 (recN c_is_league 30) 30) (defBody (top 17)) = some f_is_league := by kernel_rfl
def c_need_league : CC := ⟨["league"], [⟨"is_league", 1, s_is_league⟩], []⟩
theorem r_need_league : compSs (compS c_need_league ⟨defScope (top 18), fun _ => true, false⟩ ["BadLeague"] 200 (recN c_need_league 30) 30) (defBody (top 18)) = some f_need_league := by kernel_rfl
def c_need_side : CC := ⟨["league", "side"], [⟨"is_count", 3, s_is_count⟩], []⟩
theorem r_need_side : compSs (compS c_need_side ⟨defScope (top 19), fun _ => true, false⟩ ["BadSide"] 200 (recN c_need_side 30) 30) (defBody (top 19)) = some f_need_side := by kernel_rfl
def c_need_place : CC := ⟨["league", "place"], [⟨"is_count", 3, s_is_count⟩], []⟩
theorem r_need_place : compSs (compS c_need_place ⟨defScope (top 20), fun _ => true, false⟩ ["BadPlace"] 200 (recN c_need_place 30) 30) (defBody (top 20)) = some f_need_place := by kernel_rfl
def c_left_of : CC := ⟨["league", "side", "one", "other", "many"], [], []⟩
theorem r_left_of : compSs (compS c_left_of ⟨defScope (top 21), fun _ => true, false⟩ [] 200 (recN c_left_of 30) 30) (defBody (top 21)) = some f_left_of := by kernel_rfl
def c_with_wins : CC := ⟨["wins", "side", "by"], [], []⟩
theorem r_with_wins : compSs (compS c_with_wins ⟨defScope (top 22), fun _ => true, false⟩ [] 200 (recN c_with_wins 30) 30) (defBody (top 22)) = some f_with_wins := by kernel_rfl
def c_ended_of : CC := ⟨["league", "season", "wins", "first", "one", "other", "many"], [⟨"with_wins", 3, s_with_wins⟩], []⟩
theorem r_ended_of : compSs (compS c_ended_of ⟨defScope (top 23), fun _ => true, false⟩ [] 200 (recN c_ended_of 30) 30) (defBody (top 23)) = some f_ended_of := by kernel_rfl
def c_choices : CC := ⟨["row", "size", "found", "turn", "longer", "some", "one"], [], []⟩
theorem r_choices : compSs (compS c_choices ⟨defScope (top 25), fun _ => true, false⟩ [] 200 (recN c_choices 30) 30) (defBody (top 25)) = some f_choices := by kernel_rfl
def c_others : CC := ⟨["league", "side", "one"], [], []⟩
theorem r_others : compSs (compS c_others ⟨defScope (top 26), fun _ => true, false⟩ [] 200 (recN c_others 30) 30) (defBody (top 26)) = some f_others := by kernel_rfl
def c_between : CC := ⟨["league", "one", "other", "found", "first", "second", "many"], [], []⟩
theorem r_between : compSs (compS c_between ⟨defScope (top 28), fun _ => true, false⟩ [] 200 (recN c_between 30) 30) (defBody (top 28)) = some f_between := by kernel_rfl
def c_lacks : CC := ⟨["league", "side", "above", "found", "one", "inside", "other"], [⟨"left_of", 2, s_left_of⟩, ⟨"between", 3, s_between⟩], []⟩
theorem r_lacks : compSs (compS c_lacks ⟨defScope (top 30), fun _ => true, false⟩ [] 200 (recN c_lacks 30) 30) (defBody (top 30)) = some f_lacks := by kernel_rfl
def c_can_be_above : CC := ⟨["league", "side", "above", "due", "size", "group", "inside", "one", "other", "many"], [⟨"choices", 2, s_choices⟩, ⟨"lacks", 3, s_lacks⟩], []⟩
theorem r_can_be_above : compSs (compS c_can_be_above ⟨defScope (top 31), fun _ => true, false⟩ [] 200 (recN c_can_be_above 30) 30) (defBody (top 31)) = some f_can_be_above := by kernel_rfl
def c_worst_of : CC := ⟨["league", "side", "rest", "size", "above"], [⟨"choices", 2, s_choices⟩, ⟨"others", 2, s_others⟩, ⟨"can_be_above", 3, s_can_be_above⟩], []⟩
theorem r_worst_of : compSs (compS c_worst_of ⟨defScope (top 32), fun _ => true, false⟩ [] 200 (recN c_worst_of 30) 30) (defBody (top 32)) = some f_worst_of := by kernel_rfl
def c_worst : CC := ⟨["league", "side"], [⟨"need_league", 1, s_need_league⟩, ⟨"need_side", 2, s_need_side⟩, ⟨"worst_of", 2, s_worst_of⟩], []⟩
theorem r_worst : compSs (compS c_worst ⟨defScope (top 33), fun _ => true, false⟩ [] 200 (recN c_worst 30) 30) (defBody (top 33)) = some f_worst := by kernel_rfl
def c_sure : CC := ⟨["league", "place", "side"], [⟨"need_league", 1, s_need_league⟩, ⟨"need_place", 2, s_need_place⟩, ⟨"worst_of", 2, s_worst_of⟩], []⟩
theorem r_sure : compSs (compS c_sure ⟨defScope (top 34), fun _ => true, false⟩ [] 200 (recN c_sure 30) 30) (defBody (top 34)) = some f_sure := by kernel_rfl
def c_behind_first : CC := ⟨["league", "first"], [⟨"ended_of", 2, s_ended_of⟩], []⟩
theorem r_behind_first : compSs (compS c_behind_first ⟨defScope (top 35), fun _ => true, false⟩ [] 200 (recN c_behind_first 30) 30) (defBody (top 35)) = some f_behind_first := by kernel_rfl
def c_against : CC := ⟨["league", "side", "place", "found", "first", "own"], [⟨"need_league", 1, s_need_league⟩, ⟨"need_side", 2, s_need_side⟩, ⟨"need_place", 2, s_need_place⟩, ⟨"worst_of", 2, s_worst_of⟩, ⟨"behind_first", 2, s_behind_first⟩], []⟩
theorem r_against : compSs (compS c_against ⟨defScope (top 36), fun _ => true, false⟩ [] 200 (recN c_against 30) 30) (defBody (top 36)) = some f_against := by kernel_rfl
def c__law_cell : CC := ⟨["_law_script", "_law_k"], [], []⟩
theorem r__law_cell : compSs (compS c__law_cell ⟨defScope (top 38), fun _ => true, false⟩ [] 200 (recN c__law_cell 30) 30) (defBody (top 38)) = some f__law_cell := by kernel_rfl
def c__law_drawn : CC := ⟨["_law_cell_here", "_law_k", "_law_more"], [], []⟩
theorem r__law_drawn : compSs (compS c__law_drawn ⟨defScope (top 39), fun _ => true, false⟩ [] 200 (recN c__law_drawn 30) 30) (defBody (top 39)) = some f__law_drawn := by kernel_rfl
def c__law_league : CC := ⟨["_law_more", "_law_most", "_law_sides", "_law_wins", "_law_left", "_law_one", "_law_other", "_law_here", "_law_j"], [⟨"_law_drawn", 2, s__law_drawn⟩], []⟩
theorem r__law_league : compSs (compS c__law_league ⟨defScope (top 42), fun _ => true, false⟩ [] 200 (recN c__law_league 30) 30) (defBody (top 42)) = some f__law_league := by kernel_rfl
def c_law : CC := ⟨["_law_script", "_law_k", "_law_more", "_law_league_here", "_law_sides", "_law_bad", "_law_some"], [⟨"worst", 2, s_worst⟩, ⟨"sure", 2, s_sure⟩, ⟨"against", 3, s_against⟩, ⟨"_law_cell", 2, s__law_cell⟩, ⟨"_law_drawn", 2, s__law_drawn⟩, ⟨"_law_league", 2, s__law_league⟩], []⟩
theorem r_law : compSs (compS c_law ⟨defScope (top 43), fun _ => true, true⟩ [] 200 (recNL c_law (toldR c_law cls 30) 30) 30) (defBody (top 43)) = some f_law := by kernel_rfl
end L71
namespace L71
open PySem PySem.Spec PyProof.Rows L2 PD PG
abbrev DefAt (S : Sys) (x : Str) (i : Nat) : Prop := ∃ fa fd, FunD S.K x x (defArgs (top i)) (defBody (top i)) (defScope (top i)) [] [] fa fd ∧ S.mg x = some (.ref fa)
structure Hd (S : Sys) : Prop where
  b : ∀ x ∈ bltNames, S.mg x = none
  i_MOST_SIDES : ConAt S "MOST_SIDES" (.int 6)
  i_MOST_WINS : ConAt S "MOST_WINS" (.int 60)
  i_MOST_LEFT : ConAt S "MOST_LEFT" (.int 9)
  x_BadLeague : ExcAt S "BadLeague"
  x_BadSide : ExcAt S "BadSide"
  x_BadPlace : ExcAt S "BadPlace"
  d_is_count : DefAt S "is_count" 15
  d_is_left : DefAt S "is_left" 16
  d_is_league : DefAt S "is_league" 17
  d_need_league : DefAt S "need_league" 18
  d_need_side : DefAt S "need_side" 19
  d_need_place : DefAt S "need_place" 20
  d_left_of : DefAt S "left_of" 21
  d_with_wins : DefAt S "with_wins" 22
  d_ended_of : DefAt S "ended_of" 23
  d_choices : DefAt S "choices" 25
  d_others : DefAt S "others" 26
  d_between : DefAt S "between" 28
  d_lacks : DefAt S "lacks" 30
  d_can_be_above : DefAt S "can_be_above" 31
  d_worst_of : DefAt S "worst_of" 32
  d_worst : DefAt S "worst" 33
  d_sure : DefAt S "sure" 34
  d_behind_first : DefAt S "behind_first" 35
  d_against : DefAt S "against" 36
  d__law_cell : DefAt S "_law_cell" 38
  d__law_drawn : DefAt S "_law_drawn" 39
  d__law_league : DefAt S "_law_league" 42
  d_law : DefAt S "law" 43
  tw : DefAt S "_law_word" 40
  tt : DefAt S "_law_told" 41
  le : S.mg ("LeagueError" : Str) = some (.ref (S.ca "LeagueError"))
  gc : ∀ c ∈ cls, S.mg c = some (.ref (S.ca c))
  ve : S.mg ("ValueError" : Str) = none
  ca : S.ca = He.ga S.K
  tb : toldB S.K cls = true
theorem k_is_count {S : Sys} (h : Hd S) : FnAt S 1 "is_count" 3 s_is_count :=
  fnAt_of (ps := ["thing", "low", "high"]) h.d_is_count (fun _ _ _ _ _ _ us hl => match us, hl with | [_, _, _], _ => rfl) ⟨rfl, rfl, rfl, by decide +kernel, rfl, by decide +kernel, by decide +kernel⟩ rfl ⟨fns_nil, con_nil, blt_of h.b⟩ exc_nil r_is_count
theorem k_is_left {S : Sys} (h : Hd S) : FnAt S 2 "is_left" 2 s_is_left :=
  fnAt_of (ps := ["thing", "sides"]) h.d_is_left (fun _ _ _ _ _ _ us hl => match us, hl with | [_, _], _ => rfl) ⟨rfl, rfl, rfl, by decide +kernel, rfl, by decide +kernel, by decide +kernel⟩ rfl ⟨(fns_cons ((k_is_count h).mono (by decide)) fns_nil), (con_cons h.i_MOST_LEFT con_nil), blt_of h.b⟩ exc_nil r_is_left
theorem k_is_league {S : Sys} (h : Hd S) : FnAt S 3 "is_league" 1 s_is_league :=
  fnAt_of (ps := ["thing"]) h.d_is_league (fun _ _ _ _ _ _ us hl => match us, hl with | [_], _ => rfl) ⟨rfl, rfl, rfl, by decide +kernel, rfl, by decide +kernel, by decide +kernel⟩ rfl ⟨(fns_cons ((k_is_count h).mono (by decide)) (fns_cons ((k_is_left h).mono (by decide)) fns_nil)), (con_cons h.i_MOST_SIDES (con_cons h.i_MOST_WINS con_nil)), blt_of h.b⟩ exc_nil r_is_league
theorem k_need_league {S : Sys} (h : Hd S) : FnAt S 4 "need_league" 1 s_need_league :=
  fnAt_of (ps := ["league"]) h.d_need_league (fun _ _ _ _ _ _ us hl => match us, hl with | [_], _ => rfl) ⟨rfl, rfl, rfl, by decide +kernel, rfl, by decide +kernel, by decide +kernel⟩ rfl ⟨(fns_cons ((k_is_league h).mono (by decide)) fns_nil), con_nil, blt_of h.b⟩ (exc_cons h.x_BadLeague exc_nil) r_need_league
theorem k_need_side {S : Sys} (h : Hd S) : FnAt S 2 "need_side" 2 s_need_side :=
  fnAt_of (ps := ["league", "side"]) h.d_need_side (fun _ _ _ _ _ _ us hl => match us, hl with | [_, _], _ => rfl) ⟨rfl, rfl, rfl, by decide +kernel, rfl, by decide +kernel, by decide +kernel⟩ rfl ⟨(fns_cons ((k_is_count h).mono (by decide)) fns_nil), con_nil, blt_of h.b⟩ (exc_cons h.x_BadSide exc_nil) r_need_side
theorem k_need_place {S : Sys} (h : Hd S) : FnAt S 2 "need_place" 2 s_need_place :=
  fnAt_of (ps := ["league", "place"]) h.d_need_place (fun _ _ _ _ _ _ us hl => match us, hl with | [_, _], _ => rfl) ⟨rfl, rfl, rfl, by decide +kernel, rfl, by decide +kernel, by decide +kernel⟩ rfl ⟨(fns_cons ((k_is_count h).mono (by decide)) fns_nil), con_nil, blt_of h.b⟩ (exc_cons h.x_BadPlace exc_nil) r_need_place
theorem k_left_of {S : Sys} (h : Hd S) : FnAt S 1 "left_of" 2 s_left_of :=
  fnAt_of (ps := ["league", "side"]) h.d_left_of (fun _ _ _ _ _ _ us hl => match us, hl with | [_, _], _ => rfl) ⟨rfl, rfl, rfl, by decide +kernel, rfl, by decide +kernel, by decide +kernel⟩ rfl ⟨fns_nil, con_nil, blt_of h.b⟩ exc_nil r_left_of
theorem k_with_wins {S : Sys} (h : Hd S) : FnAt S 1 "with_wins" 3 s_with_wins :=
  fnAt_of (ps := ["wins", "side", "by"]) h.d_with_wins (fun _ _ _ _ _ _ us hl => match us, hl with | [_, _, _], _ => rfl) ⟨rfl, rfl, rfl, by decide +kernel, rfl, by decide +kernel, by decide +kernel⟩ rfl ⟨fns_nil, con_nil, blt_of h.b⟩ exc_nil r_with_wins
theorem k_ended_of {S : Sys} (h : Hd S) : FnAt S 2 "ended_of" 2 s_ended_of :=
  fnAt_of (ps := ["league", "season"]) h.d_ended_of (fun _ _ _ _ _ _ us hl => match us, hl with | [_, _], _ => rfl) ⟨rfl, rfl, rfl, by decide +kernel, rfl, by decide +kernel, by decide +kernel⟩ rfl ⟨(fns_cons ((k_with_wins h).mono (by decide)) fns_nil), con_nil, blt_of h.b⟩ exc_nil r_ended_of
theorem k_choices {S : Sys} (h : Hd S) : FnAt S 1 "choices" 2 s_choices :=
  fnAt_of (ps := ["row", "size"]) h.d_choices (fun _ _ _ _ _ _ us hl => match us, hl with | [_, _], _ => rfl) ⟨rfl, rfl, rfl, by decide +kernel, rfl, by decide +kernel, by decide +kernel⟩ rfl ⟨fns_nil, con_nil, blt_of h.b⟩ exc_nil r_choices
theorem k_others {S : Sys} (h : Hd S) : FnAt S 1 "others" 2 s_others :=
  fnAt_of (ps := ["league", "side"]) h.d_others (fun _ _ _ _ _ _ us hl => match us, hl with | [_, _], _ => rfl) ⟨rfl, rfl, rfl, by decide +kernel, rfl, by decide +kernel, by decide +kernel⟩ rfl ⟨fns_nil, con_nil, blt_of h.b⟩ exc_nil r_others
theorem k_between {S : Sys} (h : Hd S) : FnAt S 1 "between" 3 s_between :=
  fnAt_of (ps := ["league", "one", "other"]) h.d_between (fun _ _ _ _ _ _ us hl => match us, hl with | [_, _, _], _ => rfl) ⟨rfl, rfl, rfl, by decide +kernel, rfl, by decide +kernel, by decide +kernel⟩ rfl ⟨fns_nil, con_nil, blt_of h.b⟩ exc_nil r_between
theorem k_lacks {S : Sys} (h : Hd S) : FnAt S 2 "lacks" 3 s_lacks :=
  fnAt_of (ps := ["league", "side", "above"]) h.d_lacks (fun _ _ _ _ _ _ us hl => match us, hl with | [_, _, _], _ => rfl) ⟨rfl, rfl, rfl, by decide +kernel, rfl, by decide +kernel, by decide +kernel⟩ rfl ⟨(fns_cons ((k_left_of h).mono (by decide)) (fns_cons ((k_between h).mono (by decide)) fns_nil)), con_nil, blt_of h.b⟩ exc_nil r_lacks
theorem k_can_be_above {S : Sys} (h : Hd S) : FnAt S 3 "can_be_above" 3 s_can_be_above :=
  fnAt_of (ps := ["league", "side", "above"]) h.d_can_be_above (fun _ _ _ _ _ _ us hl => match us, hl with | [_, _, _], _ => rfl) ⟨rfl, rfl, rfl, by decide +kernel, rfl, by decide +kernel, by decide +kernel⟩ rfl ⟨(fns_cons ((k_choices h).mono (by decide)) (fns_cons ((k_lacks h).mono (by decide)) fns_nil)), con_nil, blt_of h.b⟩ exc_nil r_can_be_above
theorem k_worst_of {S : Sys} (h : Hd S) : FnAt S 4 "worst_of" 2 s_worst_of :=
  fnAt_of (ps := ["league", "side"]) h.d_worst_of (fun _ _ _ _ _ _ us hl => match us, hl with | [_, _], _ => rfl) ⟨rfl, rfl, rfl, by decide +kernel, rfl, by decide +kernel, by decide +kernel⟩ rfl ⟨(fns_cons ((k_choices h).mono (by decide)) (fns_cons ((k_others h).mono (by decide)) (fns_cons ((k_can_be_above h).mono (by decide)) fns_nil))), con_nil, blt_of h.b⟩ exc_nil r_worst_of
theorem k_worst {S : Sys} (h : Hd S) : FnAt S 5 "worst" 2 s_worst :=
  fnAt_of (ps := ["league", "side"]) h.d_worst (fun _ _ _ _ _ _ us hl => match us, hl with | [_, _], _ => rfl) ⟨rfl, rfl, rfl, by decide +kernel, rfl, by decide +kernel, by decide +kernel⟩ rfl ⟨(fns_cons ((k_need_league h).mono (by decide)) (fns_cons ((k_need_side h).mono (by decide)) (fns_cons ((k_worst_of h).mono (by decide)) fns_nil))), con_nil, blt_of h.b⟩ exc_nil r_worst
theorem k_sure {S : Sys} (h : Hd S) : FnAt S 5 "sure" 2 s_sure :=
  fnAt_of (ps := ["league", "place"]) h.d_sure (fun _ _ _ _ _ _ us hl => match us, hl with | [_, _], _ => rfl) ⟨rfl, rfl, rfl, by decide +kernel, rfl, by decide +kernel, by decide +kernel⟩ rfl ⟨(fns_cons ((k_need_league h).mono (by decide)) (fns_cons ((k_need_place h).mono (by decide)) (fns_cons ((k_worst_of h).mono (by decide)) fns_nil))), con_nil, blt_of h.b⟩ exc_nil r_sure
theorem k_behind_first {S : Sys} (h : Hd S) : FnAt S 3 "behind_first" 2 s_behind_first :=
  fnAt_of (ps := ["league", "first"]) h.d_behind_first (fun _ _ _ _ _ _ us hl => match us, hl with | [_, _], _ => rfl) ⟨rfl, rfl, rfl, by decide +kernel, rfl, by decide +kernel, by decide +kernel⟩ rfl ⟨(fns_cons ((k_ended_of h).mono (by decide)) fns_nil), con_nil, blt_of h.b⟩ exc_nil r_behind_first
theorem k_against {S : Sys} (h : Hd S) : FnAt S 5 "against" 3 s_against :=
  fnAt_of (ps := ["league", "side", "place"]) h.d_against (fun _ _ _ _ _ _ us hl => match us, hl with | [_, _, _], _ => rfl) ⟨rfl, rfl, rfl, by decide +kernel, rfl, by decide +kernel, by decide +kernel⟩ rfl ⟨(fns_cons ((k_need_league h).mono (by decide)) (fns_cons ((k_need_side h).mono (by decide)) (fns_cons ((k_need_place h).mono (by decide)) (fns_cons ((k_worst_of h).mono (by decide)) (fns_cons ((k_behind_first h).mono (by decide)) fns_nil))))), con_nil, blt_of h.b⟩ exc_nil r_against
theorem k__law_cell {S : Sys} (h : Hd S) : FnAt S 1 "_law_cell" 2 s__law_cell :=
  fnAt_of (ps := ["_law_script", "_law_k"]) h.d__law_cell (fun _ _ _ _ _ _ us hl => match us, hl with | [_, _], _ => rfl) ⟨rfl, rfl, rfl, by decide +kernel, rfl, by decide +kernel, by decide +kernel⟩ rfl ⟨fns_nil, con_nil, blt_of h.b⟩ exc_nil r__law_cell
theorem k__law_drawn {S : Sys} (h : Hd S) : FnAt S 1 "_law_drawn" 2 s__law_drawn :=
  fnAt_of (ps := ["_law_cell_here", "_law_k"]) h.d__law_drawn (fun _ _ _ _ _ _ us hl => match us, hl with | [_, _], _ => rfl) ⟨rfl, rfl, rfl, by decide +kernel, rfl, by decide +kernel, by decide +kernel⟩ rfl ⟨fns_nil, con_nil, blt_of h.b⟩ exc_nil r__law_drawn
theorem k__law_league {S : Sys} (h : Hd S) : FnAt S 2 "_law_league" 2 s__law_league :=
  fnAt_of (ps := ["_law_more", "_law_most"]) h.d__law_league (fun _ _ _ _ _ _ us hl => match us, hl with | [_, _], _ => rfl) ⟨rfl, rfl, rfl, by decide +kernel, rfl, by decide +kernel, by decide +kernel⟩ rfl ⟨(fns_cons ((k__law_drawn h).mono (by decide)) fns_nil), con_nil, blt_of h.b⟩ exc_nil r__law_league
theorem k_law {S : Sys} (h : Hd S) {fa : Addr} {fd : FuncData} (F : FunD S.K "law" "law" (defArgs (top 43)) (defBody (top 43)) (defScope (top 43)) [] [] fa fd)
    (hlam : ∀ (dV kV doc pm : Value) (an : Option Addr) (cdv ct : Value), fd = PySem.W.fnOf "law" "law" (defArgs (top 43)) (defBody (top 43)) (defScope (top 43)) dV kV doc pm an cdv ct → ∃ c P, cdv = .ref c ∧ LamX.TabB S.base S.mg c P ∧ (P, ("law" : Str) ++ (".<locals>." : Str) ++ ("<lambda>" : Str)) ∈ S.T ∧ ∀ p ∈ S.T, p.1 = P → p.2 = ("law" : Str) ++ (".<locals>." : Str) ++ ("<lambda>" : Str)) :
    FnOk S.P S.w S.K S.mg S.base (L2N.CX S.P S.w) 8 fa fd ["_law_script"] (spD S 1 s_law) :=
  fnOk_ofL (k := 7) (Lr := toldR c_law cls 30) (ps := ["_law_script"]) F ⟨rfl, rfl, rfl, by decide +kernel, rfl, by decide +kernel, by decide +kernel⟩ rfl ⟨(fns_cons ((k_worst h).mono (by decide)) (fns_cons ((k_sure h).mono (by decide)) (fns_cons ((k_against h).mono (by decide)) (fns_cons ((k__law_cell h).mono (by decide)) (fns_cons ((k__law_drawn h).mono (by decide)) (fns_cons ((k__law_league h).mono (by decide)) fns_nil)))))), con_nil, blt_of h.b⟩ (fun E sc e f hr => toldR_ok (j := 5) (kw := 1) (by decide) (by decide) ⟨(fns_cons ((k_worst h).mono (by decide)) (fns_cons ((k_sure h).mono (by decide)) (fns_cons ((k_against h).mono (by decide)) (fns_cons ((k__law_cell h).mono (by decide)) (fns_cons ((k__law_drawn h).mono (by decide)) (fns_cons ((k__law_league h).mono (by decide)) fns_nil)))))), con_nil, blt_of h.b⟩ (t_told h.tt h.le h.ca h.tb) (t_word h.tw h.b h.ve h.gc h.ca h.tb) E sc e f hr) exc_nil hlam r_law
def dd (i : Nat) (x : Str) : He.DefD := ⟨(x, none), x, x, defArgs (top i), defBody (top i), defScope (top i), [], []⟩
def fn : List He.DefD := ([dd 15 "is_count", dd 16 "is_left", dd 17 "is_league", dd 18 "need_league", dd 19 "need_side", dd 20 "need_place", dd 21 "left_of", dd 22 "with_wins", dd 23 "ended_of", dd 25 "choices", dd 26 "others", dd 28 "between", dd 30 "lacks", dd 31 "can_be_above", dd 32 "worst_of", dd 33 "worst", dd 34 "sure", dd 35 "behind_first", dd 36 "against", dd 38 "_law_cell"] : List He.DefD) ++ ([dd 39 "_law_drawn", dd 40 "_law_word", dd 41 "_law_told", dd 42 "_law_league", dd 43 "law"] : List He.DefD)
def fa : List He.Fa := ([.glo "is_count", .glo "is_left", .glo "is_league", .glo "need_league", .glo "need_side", .glo "need_place", .glo "left_of", .glo "with_wins", .glo "ended_of", .glo "choices", .glo "others", .glo "between", .glo "lacks", .glo "can_be_above", .glo "worst_of", .glo "worst", .glo "sure", .glo "behind_first", .glo "against", .glo "_law_cell"] : List He.Fa) ++ ([.glo "_law_drawn", .glo "_law_word", .glo "_law_told", .glo "_law_league", .glo "law", .glo "BadLeague", .glo "BadSide", .glo "BadPlace", .glo "BadChain", .glo "BadMatch", .glo "BadRules", .glo "BadText", .glo "Nothing", .glo "TooMany", .glo "LeagueError", .exc "BadLeague", .exc "BadSide", .exc "BadPlace", .int "MOST_SIDES" 6, .int "MOST_WINS" 60] : List He.Fa) ++ ([.int "MOST_LEFT" 9, .free "len", .free "range", .free "isinstance", .free "int", .free "str", .free "bool", .free "list", .free "tuple", .free "sum", .free "all", .free "any", .free "max", .free "min", .free "sorted", .free "set", .free "zip", .free "enumerate", .free "abs", .free "dict"] : List He.Fa) ++ ([.free "ValueError"] : List He.Fa)
abbrev Rw : PySem.W.OpenRow := PySem.W.OpenLaw.row PySem.Challenge.rw_leaguechains_k71_worst_refused
abbrev hk : PySem.W.Hook := He.hookX 4 fa fn [] [("law", none)] (fun K => toldB K cls)
def ob (s : PySem.W.SharedT) : He.AlX := He.obsX 4 fa fn [] [("law", none)] (fun K => toldB K cls) (HandSHeadRun.getT s)
theorem ob_eq (s : PySem.W.SharedT) : ob s = hk.obs s.abs := He.obsX_eq (HandSHeadRun.getT_eq s)
def loose : List PySem.Str := (["LeagueError", "BadLeague", "BadSide", "BadPlace", "BadMatch", "BadChain", "BadRules", "BadText", "TooMany", "Nothing", "MOST_SIDES", "MOST_WINS", "MOST_LEFT", "is_count", "is_left", "is_league", "need_league", "need_side", "need_place", "left_of"] : List PySem.Str) ++ (["with_wins", "ended_of", "choices", "others", "between", "lacks", "can_be_above", "worst_of", "worst", "sure", "behind_first", "against", "_law_cell", "_law_drawn", "_law_word", "_law_told", "_law_league"] : List PySem.Str)
theorem run (w : World) : HandSHeadRun.RunEq Rw (PySem.W.view Rw.prog [43]) hk ob 6000 L71.loose w := by
  intro os
  kernel_rfl
theorem hd_of {P : Program} {w : World} {K : PySem.W.Frag} {h : Heap} {mg : Str → Option Value} {base : Heap} (X : K.In h) (G : h.Ns mainGlobals mg) (c : He.SaysD fa fn K) (tb : toldB K cls = true) : Hd (sysT P w K mg base) where
  b := by
    intro x hx
    simp only [bltNames, List.mem_cons, List.not_mem_nil, or_false] at hx
    rcases hx with e | e | e | e | e | e | e | e | e | e | e | e | e | e | e | e | e | e | e
    · subst e; exact He.free_ok X G (c.fact 41 (f := .free "len") rfl)
    · subst e; exact He.free_ok X G (c.fact 42 (f := .free "range") rfl)
    · subst e; exact He.free_ok X G (c.fact 43 (f := .free "isinstance") rfl)
    · subst e; exact He.free_ok X G (c.fact 44 (f := .free "int") rfl)
    · subst e; exact He.free_ok X G (c.fact 45 (f := .free "str") rfl)
    · subst e; exact He.free_ok X G (c.fact 46 (f := .free "bool") rfl)
    · subst e; exact He.free_ok X G (c.fact 47 (f := .free "list") rfl)
    · subst e; exact He.free_ok X G (c.fact 48 (f := .free "tuple") rfl)
    · subst e; exact He.free_ok X G (c.fact 49 (f := .free "sum") rfl)
    · subst e; exact He.free_ok X G (c.fact 50 (f := .free "all") rfl)
    · subst e; exact He.free_ok X G (c.fact 51 (f := .free "any") rfl)
    · subst e; exact He.free_ok X G (c.fact 52 (f := .free "max") rfl)
    · subst e; exact He.free_ok X G (c.fact 53 (f := .free "min") rfl)
    · subst e; exact He.free_ok X G (c.fact 54 (f := .free "sorted") rfl)
    · subst e; exact He.free_ok X G (c.fact 55 (f := .free "set") rfl)
    · subst e; exact He.free_ok X G (c.fact 56 (f := .free "zip") rfl)
    · subst e; exact He.free_ok X G (c.fact 57 (f := .free "enumerate") rfl)
    · subst e; exact He.free_ok X G (c.fact 58 (f := .free "abs") rfl)
    · subst e; exact He.free_ok X G (c.fact 59 (f := .free "dict") rfl)
  i_MOST_SIDES := con_int (He.int_ok X G (c.fact 38 (f := .int "MOST_SIDES" 6) rfl))
  i_MOST_WINS := con_int (He.int_ok X G (c.fact 39 (f := .int "MOST_WINS" 60) rfl))
  i_MOST_LEFT := con_int (He.int_ok X G (c.fact 40 (f := .int "MOST_LEFT" 9) rfl))
  x_BadLeague := excAt_ofT (He.glo_ok X G (c.fact 25 (f := .glo "BadLeague") rfl)) (c.fact 35 (f := .exc "BadLeague") rfl)
  x_BadSide := excAt_ofT (He.glo_ok X G (c.fact 26 (f := .glo "BadSide") rfl)) (c.fact 36 (f := .exc "BadSide") rfl)
  x_BadPlace := excAt_ofT (He.glo_ok X G (c.fact 27 (f := .glo "BadPlace") rfl)) (c.fact 37 (f := .exc "BadPlace") rfl)
  d_is_count := by
    obtain ⟨fd, F⟩ := c.def_ 0 (d := dd 15 "is_count") rfl
    exact ⟨_, fd, F, He.glo_ok X G (c.fact 0 (f := .glo "is_count") rfl)⟩
  d_is_left := by
    obtain ⟨fd, F⟩ := c.def_ 1 (d := dd 16 "is_left") rfl
    exact ⟨_, fd, F, He.glo_ok X G (c.fact 1 (f := .glo "is_left") rfl)⟩
  d_is_league := by
    obtain ⟨fd, F⟩ := c.def_ 2 (d := dd 17 "is_league") rfl
    exact ⟨_, fd, F, He.glo_ok X G (c.fact 2 (f := .glo "is_league") rfl)⟩
  d_need_league := by
    obtain ⟨fd, F⟩ := c.def_ 3 (d := dd 18 "need_league") rfl
    exact ⟨_, fd, F, He.glo_ok X G (c.fact 3 (f := .glo "need_league") rfl)⟩
  d_need_side := by
    obtain ⟨fd, F⟩ := c.def_ 4 (d := dd 19 "need_side") rfl
    exact ⟨_, fd, F, He.glo_ok X G (c.fact 4 (f := .glo "need_side") rfl)⟩
  d_need_place := by
    obtain ⟨fd, F⟩ := c.def_ 5 (d := dd 20 "need_place") rfl
    exact ⟨_, fd, F, He.glo_ok X G (c.fact 5 (f := .glo "need_place") rfl)⟩
  d_left_of := by
    obtain ⟨fd, F⟩ := c.def_ 6 (d := dd 21 "left_of") rfl
    exact ⟨_, fd, F, He.glo_ok X G (c.fact 6 (f := .glo "left_of") rfl)⟩
  d_with_wins := by
    obtain ⟨fd, F⟩ := c.def_ 7 (d := dd 22 "with_wins") rfl
    exact ⟨_, fd, F, He.glo_ok X G (c.fact 7 (f := .glo "with_wins") rfl)⟩
  d_ended_of := by
    obtain ⟨fd, F⟩ := c.def_ 8 (d := dd 23 "ended_of") rfl
    exact ⟨_, fd, F, He.glo_ok X G (c.fact 8 (f := .glo "ended_of") rfl)⟩
  d_choices := by
    obtain ⟨fd, F⟩ := c.def_ 9 (d := dd 25 "choices") rfl
    exact ⟨_, fd, F, He.glo_ok X G (c.fact 9 (f := .glo "choices") rfl)⟩
  d_others := by
    obtain ⟨fd, F⟩ := c.def_ 10 (d := dd 26 "others") rfl
    exact ⟨_, fd, F, He.glo_ok X G (c.fact 10 (f := .glo "others") rfl)⟩
  d_between := by
    obtain ⟨fd, F⟩ := c.def_ 11 (d := dd 28 "between") rfl
    exact ⟨_, fd, F, He.glo_ok X G (c.fact 11 (f := .glo "between") rfl)⟩
  d_lacks := by
    obtain ⟨fd, F⟩ := c.def_ 12 (d := dd 30 "lacks") rfl
    exact ⟨_, fd, F, He.glo_ok X G (c.fact 12 (f := .glo "lacks") rfl)⟩
  d_can_be_above := by
    obtain ⟨fd, F⟩ := c.def_ 13 (d := dd 31 "can_be_above") rfl
    exact ⟨_, fd, F, He.glo_ok X G (c.fact 13 (f := .glo "can_be_above") rfl)⟩
  d_worst_of := by
    obtain ⟨fd, F⟩ := c.def_ 14 (d := dd 32 "worst_of") rfl
    exact ⟨_, fd, F, He.glo_ok X G (c.fact 14 (f := .glo "worst_of") rfl)⟩
  d_worst := by
    obtain ⟨fd, F⟩ := c.def_ 15 (d := dd 33 "worst") rfl
    exact ⟨_, fd, F, He.glo_ok X G (c.fact 15 (f := .glo "worst") rfl)⟩
  d_sure := by
    obtain ⟨fd, F⟩ := c.def_ 16 (d := dd 34 "sure") rfl
    exact ⟨_, fd, F, He.glo_ok X G (c.fact 16 (f := .glo "sure") rfl)⟩
  d_behind_first := by
    obtain ⟨fd, F⟩ := c.def_ 17 (d := dd 35 "behind_first") rfl
    exact ⟨_, fd, F, He.glo_ok X G (c.fact 17 (f := .glo "behind_first") rfl)⟩
  d_against := by
    obtain ⟨fd, F⟩ := c.def_ 18 (d := dd 36 "against") rfl
    exact ⟨_, fd, F, He.glo_ok X G (c.fact 18 (f := .glo "against") rfl)⟩
  d__law_cell := by
    obtain ⟨fd, F⟩ := c.def_ 19 (d := dd 38 "_law_cell") rfl
    exact ⟨_, fd, F, He.glo_ok X G (c.fact 19 (f := .glo "_law_cell") rfl)⟩
  d__law_drawn := by
    obtain ⟨fd, F⟩ := c.def_ 20 (d := dd 39 "_law_drawn") rfl
    exact ⟨_, fd, F, He.glo_ok X G (c.fact 20 (f := .glo "_law_drawn") rfl)⟩
  d__law_league := by
    obtain ⟨fd, F⟩ := c.def_ 23 (d := dd 42 "_law_league") rfl
    exact ⟨_, fd, F, He.glo_ok X G (c.fact 23 (f := .glo "_law_league") rfl)⟩
  d_law := by
    obtain ⟨fd, F⟩ := c.def_ 24 (d := dd 43 "law") rfl
    exact ⟨_, fd, F, He.glo_ok X G (c.fact 24 (f := .glo "law") rfl)⟩
  tw := by
    obtain ⟨fd, F⟩ := c.def_ 21 (d := dd 40 "_law_word") rfl
    exact ⟨_, fd, F, He.glo_ok X G (c.fact 21 (f := .glo "_law_word") rfl)⟩
  tt := by
    obtain ⟨fd, F⟩ := c.def_ 22 (d := dd 41 "_law_told") rfl
    exact ⟨_, fd, F, He.glo_ok X G (c.fact 22 (f := .glo "_law_told") rfl)⟩
  le := He.glo_ok X G (c.fact 34 (f := .glo "LeagueError") rfl)
  gc := by
    intro c0 hc
    simp only [cls, List.mem_cons, List.not_mem_nil, or_false] at hc
    rcases hc with e | e | e | e | e | e | e | e | e
    · subst e; exact He.glo_ok X G (c.fact 28 (f := .glo "BadChain") rfl)
    · subst e; exact He.glo_ok X G (c.fact 25 (f := .glo "BadLeague") rfl)
    · subst e; exact He.glo_ok X G (c.fact 29 (f := .glo "BadMatch") rfl)
    · subst e; exact He.glo_ok X G (c.fact 27 (f := .glo "BadPlace") rfl)
    · subst e; exact He.glo_ok X G (c.fact 30 (f := .glo "BadRules") rfl)
    · subst e; exact He.glo_ok X G (c.fact 26 (f := .glo "BadSide") rfl)
    · subst e; exact He.glo_ok X G (c.fact 31 (f := .glo "BadText") rfl)
    · subst e; exact He.glo_ok X G (c.fact 32 (f := .glo "Nothing") rfl)
    · subst e; exact He.glo_ok X G (c.fact 33 (f := .glo "TooMany") rfl)
  ve := He.free_ok X G (c.fact 60 (f := .free "ValueError") rfl)
  ca := rfl
  tb := tb
end L71
open PySem PySem.W PySem.Calls PyProof.Rows
theorem PySem.Challenge.cw_leaguechains_k71_worst_refused_holds : PySem.Challenge.rw_leaguechains_k71_worst_refused.Holds := by
  w_on; o_law
  refine HandSHeadRun.head_any (r := OpenLaw.row PySem.Challenge.rw_leaguechains_k71_worst_refused) (q := view (OpenLaw.row PySem.Challenge.rw_leaguechains_k71_worst_refused).prog [43]) (H := L71.hk) (ob := L71.ob) (M := 6000) (loose := L71.loose) (d := HandSHeadRun.topDef (OpenLaw.row PySem.Challenge.rw_leaguechains_k71_worst_refused).prog 43) (kwd := []) L71.ob_eq
    (by kernel_rfl) (fun s => by kernel_rfl) L71.run (by kernel_rfl) (by kernel_rfl) (by kernel_rfl) (by rfl) (by first | assumption | decide +kernel) (by decide +kernel) ⟨rfl, rfl, rfl, rfl, rfl, by decide +kernel⟩ ?hw ?hc
  case hw => w_witness2
  case hc =>
    refine LamX.walk_ofTsE (l := PySem.Challenge.rw_leaguechains_k71_worst_refused) (n := 63) (k := 8) (x := "_law_script") (CX := fun w => L2N.CX (PySem.Challenge.rw_leaguechains_k71_worst_refused).prog w) rfl (by decide) (by kernel_rfl) ⟨rfl, by decide, by decide⟩ ?F (fun w H s e s2 z => PD.cxN_calm z)
    intro w mg fa h Y G hmg0
    obtain ⟨K, KX, c⟩ := Y
    have cd := c.t.d
    have hmg : mg ("law" : PySem.Str) = some (.ref fa) := by
      have e : (HandSHeadRun.topDef (OpenLaw.row PySem.Challenge.rw_leaguechains_k71_worst_refused).prog 43).name = ("law" : PySem.Str) := by kernel_rfl
      rw [← e]
      exact hmg0
    obtain ⟨fd, F⟩ := cd.def_ 24 (d := L71.dd 43 "law") rfl
    have e := hmg.symm.trans (He.glo_ok KX G (cd.fact 24 (f := .glo "law") rfl))
    cases e
    have b := L2.FunD.bindsA (ps := ["_law_script"]) F fun _ _ _ _ _ _ us hl => match us, hl with | [_], _ => rfl
    exact ⟨K, KX, PD.lawAtT (f := L71.s_law) KX (c.empty _ List.mem_cons_self) (c.out _ List.mem_cons_self) (c.hd _ List.mem_cons_self) (fun s v => b s [v] rfl) L71.law_ok fun base X2 TB => L71.k_law (L71.hd_of (P := (PySem.Challenge.rw_leaguechains_k71_worst_refused).prog) (w := w) (base := base) KX G cd c.more) F (fun dV kV doc pm an cdv ct e => PD.lam_code F TB dV kV doc pm an cdv ct e)⟩
