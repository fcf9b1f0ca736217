import PyProof.Rows.All
import Wide.All
import OpenK.AllK
import Wide.FinOn
import HandS.ForMost
import HandS.ForExc
import HandS.Walk
import HandS.Lambda
import HandS.IsInst
import HandS.Wide
import HandS.TupAny
import HandS.TupLe
import HandS.Deep
import HandS.Zip
import HandS.Style
import HandS.SortInts
import HandS.Conv
import KE.GoesEnum
import HandS.HeadHook1
import KE.KTupSum
import KE.SortData
import HandS.Defaults
import HandS.Head0
import HandS.Head1
import HandS.Head2
import HandS.HeadEnd
import HandS.HeadHook2
import PySem.Challenge.RW_leaguechains_k11_whole_any_order
set_option Elab.async false
set_option linter.all false
set_option maxRecDepth 100000
set_option maxHeartbeats 0
set_option exponentiation.threshold 600
/-! plain data over the hand layer: what data stands at a value, how states grow -/
namespace PD
open PySem PySem.Spec PyProof.Rows L2
abbrev D := PyData
abbrev Frg := PySem.W.Frag
/-- the script's own list -/
def scr (ns : List Int) : D := .dict [(.none, .list (ns.map .int))]
mutual
inductive DR (K : Frg) (G : Hp) : V → D → Prop
  | non : DR K G .non .none
  | bl (b : Bool) : DR K G (.bl b) (.bool b)
  | int (i : Int) : DR K G (.int i) (.int i)
  | str (x : Str) : DR K G (.str x) (.str x)
  | lst {a : Addr} {vs : List V} {ds : List D} : G a = some (.lst vs) → DRs K G vs ds → DR K G (.ref a) (.list ds)
  | tup {a : Addr} {vs : List V} {ds : List D} : SqT K G a vs → DRs K G vs ds → DR K G (.ref a) (.tuple ds)
  | scr {a : Addr} {ns : List Int} : SqL K G a (ns.map V.int) → DR K G (.ref a) (.dict [(.none, .list (ns.map .int))])
inductive DRs (K : Frg) (G : Hp) : List V → List D → Prop
  | nil : DRs K G [] []
  | cons {v : V} {vs : List V} {d : D} {ds : List D} : DR K G v d → DRs K G vs ds → DRs K G (v :: vs) (d :: ds)
end
/-- all but tables stay -/
def Xt (H H' : Hp) : Prop := ∀ b o, H b = some o → (∀ ps, o ≠ .tbl ps) → H' b = some o
section
variable {K : Frg} {G G' G'' H H' : Hp}
theorem Xt.refl (H : Hp) : Xt H H := fun _ _ h _ => h
theorem Xt.trans (a : Xt G G') (b : Xt G' G'') : Xt G G'' := fun c o h n => b c o (a c o h n) n
theorem Xt.lst (x : Xt G G') {a : Addr} {vs : List V} (h : G a = some (.lst vs)) : G' a = some (.lst vs) := x a _ h fun ps z => by cases z
theorem Xt.tup (x : Xt G G') {a : Addr} {vs : List V} (h : G a = some (.tup vs)) : G' a = some (.tup vs) := x a _ h fun ps z => by cases z
theorem Xt.dK (x : Xt G G') {a : Addr} {vs : List (Key × V)} (h : G a = some (.dK vs)) : G' a = some (.dK vs) := x a _ h fun ps z => by cases z
theorem Xt.rdT (x : Xt G G') {a : Addr} {vs : List V} (h : Rd G a (.tup vs)) : Rd G' a (.tup vs) := by
  rcases h with h | ⟨o, h⟩
  · exact .inl (x.tup h)
  · exact .inr ⟨o, x a _ h fun ps z => by cases z⟩
theorem Xt.rdL (x : Xt G G') {a : Addr} {vs : List V} (h : Rd G a (.lst vs)) : Rd G' a (.lst vs) := by
  rcases h with h | ⟨o, h⟩
  · exact .inl (x.lst h)
  · exact .inr ⟨o, x a _ h fun ps z => by cases z⟩
theorem Xt.sqT (x : Xt G G') {a : Addr} {vs : List V} (h : SqT K G a vs) : SqT K G' a vs := by
  rcases h with h | h
  · exact .inl (x.rdT h)
  · exact .inr h
theorem Xt.sqL (x : Xt G G') {a : Addr} {vs : List V} (h : SqL K G a vs) : SqL K G' a vs := by
  rcases h with h | h
  · exact .inl (x.rdL h)
  · exact .inr h
theorem Xt.upd {a : Addr} {o : HO} (h : G a = none) : Xt G (upd G a o) := fun b u e _ => by
  rw [upd_ne (ne_of_none e h)]
  exact e
mutual
theorem DR.mono (x : Xt G G') : ∀ (d : D) (v : V), DR K G v d → DR K G' v d
  | d, v, h => by
    cases h with
    | non => exact .non
    | bl b => exact .bl b
    | int i => exact .int i
    | str y => exact .str y
    | lst e r => exact .lst (x.lst e) (DRs.mono x _ _ r)
    | tup e r => exact .tup (x.sqT e) (DRs.mono x _ _ r)
    | scr e => exact .scr (x.sqL e)
termination_by d => sizeOf d
theorem DRs.mono (x : Xt G G') : ∀ (ds : List D) (vs : List V), DRs K G vs ds → DRs K G' vs ds
  | ds, vs, h => by
    cases h with
    | nil => exact .nil
    | cons a r => exact .cons (DR.mono x _ _ a) (DRs.mono x _ _ r)
termination_by ds => sizeOf ds
end
theorem DR.up {v : V} {d : D} (h : DR K G v d) (x : Xt G G') : DR K G' v d := DR.mono x _ _ h
theorem DRs.up {v : List V} {d : List D} (h : DRs K G v d) (x : Xt G G') : DRs K G' v d := DRs.mono x _ _ h
theorem DRs.length : ∀ {vs : List V} {ds : List D}, DRs K G vs ds → vs.length = ds.length
  | _, _, .nil => rfl
  | _, _, .cons _ r => by rw [List.length_cons, List.length_cons, DRs.length r]
theorem DRs.append : ∀ {vs ws : List V} {ds es : List D}, DRs K G vs ds → DRs K G ws es → DRs K G (vs ++ ws) (ds ++ es)
  | _, _, _, _, .nil, s => s
  | _, _, _, _, .cons a r, s => .cons a (DRs.append r s)
theorem DRs.get : ∀ {vs : List V} {ds : List D} {i : Nat} {d : D}, DRs K G vs ds → ds[i]? = some d → ∃ v, vs[i]? = some v ∧ DR K G v d
  | _, _, _, _, .nil, e => by simp at e
  | _, _, 0, _, .cons a r, e => by simp at e; subst e; exact ⟨_, rfl, a⟩
  | _, _, i + 1, d, .cons _ r, e => by
    obtain ⟨v, h1, h2⟩ := DRs.get (i := i) (d := d) r (by simpa using e)
    exact ⟨v, by simpa using h1, h2⟩
theorem DRs.getV : ∀ {vs : List V} {ds : List D} {i : Nat} {v : V}, DRs K G vs ds → vs[i]? = some v → ∃ d, ds[i]? = some d ∧ DR K G v d
  | _, _, _, _, .nil, e => by simp at e
  | _, _, 0, _, .cons a r, e => by simp at e; subst e; exact ⟨_, rfl, a⟩
  | _, _, i + 1, d, .cons _ r, e => by
    obtain ⟨v, h1, h2⟩ := DRs.getV (i := i) (v := d) r (by simpa using e)
    exact ⟨v, by simpa using h1, h2⟩
theorem DRs.take : ∀ {vs : List V} {ds : List D} (n : Nat), DRs K G vs ds → DRs K G (vs.take n) (ds.take n)
  | _, _, 0, _ => .nil
  | _, _, _ + 1, .nil => .nil
  | _, _, n + 1, .cons a r => .cons a (DRs.take n r)
theorem DRs.drop : ∀ {vs : List V} {ds : List D} (n : Nat), DRs K G vs ds → DRs K G (vs.drop n) (ds.drop n)
  | _, _, 0, r => r
  | _, _, _ + 1, .nil => .nil
  | _, _, n + 1, .cons _ r => DRs.drop n r
theorem DRs.set {v : V} {d : D} (x : DR K G v d) : ∀ {vs : List V} {ds : List D} (i : Nat), DRs K G vs ds → DRs K G (vs.set i v) (ds.set i d)
  | _, _, _, .nil => .nil
  | _, _, 0, .cons _ t => .cons x t
  | _, _, i + 1, .cons q t => .cons q (DRs.set x i t)
theorem DRs.eraseIdx : ∀ {vs : List V} {ds : List D} (i : Nat), DRs K G vs ds → DRs K G (vs.eraseIdx i) (ds.eraseIdx i)
  | _, _, _, .nil => .nil
  | _, _, 0, .cons _ t => t
  | _, _, i + 1, .cons q t => .cons q (DRs.eraseIdx i t)
theorem DRs.reverse {vs : List V} {ds : List D} (h : DRs K G vs ds) : DRs K G vs.reverse ds.reverse := by
  induction vs generalizing ds with
  | nil => cases h; exact .nil
  | cons v vs ih =>
    cases h with
    | cons a r =>
      rw [List.reverse_cons, List.reverse_cons]
      exact (ih r).append (.cons a .nil)
theorem DRs.dropLast {vs : List V} {ds : List D} (h : DRs K G vs ds) : DRs K G vs.dropLast ds.dropLast := by
  rw [List.dropLast_eq_take, List.dropLast_eq_take, h.length]
  exact h.take _
theorem DRs.rep {vs : List V} {ds : List D} (h : DRs K G vs ds) : ∀ k : Nat, DRs K G (List.replicate k vs).flatten (List.replicate k ds).flatten
  | 0 => .nil
  | k + 1 => by
    rw [List.replicate_succ, List.replicate_succ, List.flatten_cons, List.flatten_cons]
    exact h.append (DRs.rep h k)
theorem DRs.map {α : Type} {f : α → V} {g : α → D} : ∀ {l : List α}, (∀ x ∈ l, DR K G (f x) (g x)) → DRs K G (l.map f) (l.map g)
  | [], _ => .nil
  | a :: l, h => .cons (h a (by simp)) (DRs.map fun x hx => h x (by simp [hx]))
/-- ints are the ints -/
theorem DRs.ints : ∀ {vs : List V} {ns : List Int}, DRs K G vs (ns.map .int) → vs = ns.map V.int
  | _, [], h => by cases h; rfl
  | _, n :: ns, h => by
    cases h with
    | cons a r =>
      cases a
      rw [DRs.ints r]
      rfl
theorem DRs.bools : ∀ {vs : List V} {ns : List Bool}, DRs K G vs (ns.map .bool) → vs = ns.map V.bl
  | _, [], h => by cases h; rfl
  | _, n :: ns, h => by
    cases h with
    | cons a r =>
      cases a
      rw [DRs.bools r]
      rfl
end
/-! ### what all of a program's defs share -/
structure Sys where
  P : Program
  w : World
  K : Frg
  mg : Str → Option Value
  base : Heap
  T : List (Addr × Str)
  ca : Str → Addr
/-- what is frozen stands, and is no table -/
def Sb (G H : Hp) : Prop := ∀ b o, G b = some o → H b = some o ∧ ∀ ps, o ≠ .tbl ps
/-- how frozen and whole heap grow -/
structure Gr (S : Sys) (G H G' H' : Hp) : Prop where
  h : Xt H H'
  g : Xt G G'
  gh : Sb G' H'
  n : ∀ p, H p ≠ none → G p = none → G' p = none
  dom : ∀ p, H' p = none → H p = none
  t : LamX.Tabs S.T H → LamX.Tabs S.T H'
section
variable {S : Sys} {G H G1 H1 G2 H2 : Hp}
theorem Sb.xt (s : Sb G H) : Xt G H := fun b o e _ => (s b o e).1
theorem Sb.none (s : Sb G H) {p : Addr} (h : H p = none) : G p = none := by
  cases e : G p with
  | none => rfl
  | some o =>
    have h2 := (s p o e).1
    rw [h] at h2
    cases h2
theorem Sb.up (s : Sb G H) (x : Xt H H1) : Sb G H1 := fun b o e => ⟨x b o (s b o e).1 (s b o e).2, (s b o e).2⟩
theorem Gr.refl (x : Sb G H) : Gr S G H G H := ⟨Xt.refl H, Xt.refl G, x, fun _ _ h => h, fun _ h => h, fun h => h⟩
theorem Gr.trans (a : Gr S G H G1 H1) (b : Gr S G1 H1 G2 H2) : Gr S G H G2 H2 :=
  ⟨a.h.trans b.h, a.g.trans b.g, b.gh, fun p h1 h2 => b.n p (fun z => h1 (a.dom p z)) (a.n p h1 h2), fun p h => a.dom p (b.dom p h), fun h => b.t (a.t h)⟩
/-- an object that is no table and no code object may be laid or changed: tables stay -/
theorem tabs_upd {T : List (Addr × Str)} {p : Addr} {o : HO} (h : LamX.Tabs T H) (hp : ∀ u, H p = some u → (∀ ps, u ≠ .tbl ps) ∧ ∀ c q, u ≠ LamX.CodeO c q) : LamX.Tabs T (upd H p o) := fun x hx => by
  obtain ⟨ps, h1, h2, h3⟩ := h x hx
  have e1 : x.1 ≠ p := fun z => (hp (.tbl ps) (by rw [← z]; exact h1)).1 ps rfl
  refine ⟨ps, by rw [upd_ne e1]; exact h1, h2, fun pos cv hc => ?_⟩
  obtain ⟨c, e2, e3⟩ := h3 pos cv hc
  have e4 : c ≠ p := fun z => (hp _ (by rw [← z]; exact e3)).2 _ _ rfl
  exact ⟨c, e2, by rw [upd_ne e4]; exact e3⟩
theorem tabs_new {T : List (Addr × Str)} {p : Addr} {o : HO} (h : LamX.Tabs T H) (hp : H p = none) : LamX.Tabs T (upd H p o) := tabs_upd h fun u e => by rw [hp] at e; cases e
theorem codeO_lst {xs : List V} {c : Addr} {q : Str} : HO.lst xs ≠ LamX.CodeO c q := fun z => by unfold LamX.CodeO at z; cases z
theorem codeO_dK {xs : List (Key × V)} {c : Addr} {q : Str} : HO.dK xs ≠ LamX.CodeO c q := fun z => by unfold LamX.CodeO at z; cases z
theorem tabs_lst {T : List (Addr × Str)} {p : Addr} {o : HO} {xs : List V} (h : LamX.Tabs T H) (hp : H p = some (.lst xs)) : LamX.Tabs T (upd H p o) := tabs_upd h fun u e => by
  rw [hp] at e
  cases e
  exact ⟨fun ps z => (by cases z), fun c q => codeO_lst⟩
theorem tabs_dK {T : List (Addr × Str)} {p : Addr} {o : HO} {xs : List (Key × V)} (h : LamX.Tabs T H) (hp : H p = some (.dK xs)) : LamX.Tabs T (upd H p o) := tabs_upd h fun u e => by
  rw [hp] at e
  cases e
  exact ⟨fun ps z => (by cases z), fun c q => codeO_dK⟩
/-- a new object, not frozen -/
theorem Gr.new {p : Addr} {o : HO} (x : Sb G H) (hp : H p = none) : Gr S G H G (upd H p o) :=
  ⟨Xt.upd hp, Xt.refl G, x.up (Xt.upd hp), fun _ _ h => h, fun q e => by
    by_cases z : q = p
    · rw [z]; exact hp
    · rwa [upd_ne z] at e, fun h => tabs_new h hp⟩
/-- what is known and no table may be frozen, if it was new -/
theorem Gr.frz {p : Addr} {o : HO} (x : Gr S G H G1 H1) (hp : H p = none) (hg : G1 p = none) (ho : H1 p = some o) (hn : ∀ ps, o ≠ .tbl ps) : Gr S G H (upd G1 p o) H1 :=
  ⟨x.h, x.g.trans (Xt.upd hg), fun b u e => by
    by_cases z : b = p
    · rw [z, upd_same] at e
      cases e
      rw [z]
      exact ⟨ho, hn⟩
    · rw [upd_ne z] at e
      exact x.gh b u e, fun q h1 h2 => by
    have z : q ≠ p := fun z => h1 (by rw [z]; exact hp)
    rw [upd_ne z]
    exact x.n q h1 h2, x.dom, x.t⟩
/-- a new object, frozen at once -/
theorem Gr.newF {p : Addr} {o : HO} (x : Sb G H) (hp : H p = none) (hn : ∀ ps, o ≠ .tbl ps) : Gr S G H (upd G p o) (upd H p o) :=
  Gr.frz (Gr.new x hp) hp (x.none hp) upd_same hn
end
end PD
/-! slots, outcomes, how readings evaluate -/
namespace PD
open PySem PySem.Spec PyProof.Rows L2
/-- what a run gives: it is not said; a refusal of the class c; a value -/
inductive M (α : Type) where
  | stuck | ex (c : Str) | ok (a : α)
def M.bind {α β : Type} : M α → (α → M β) → M β
  | .stuck, _ => .stuck
  | .ex c, _ => .ex c
  | .ok a, f => f a
instance : Monad M where
  pure := M.ok
  bind := M.bind
@[simp] theorem M.ok_bind {α β : Type} (a : α) (f : α → M β) : (M.ok a).bind f = f a := rfl
@[simp] theorem M.ex_bind {α β : Type} (c : Str) (f : α → M β) : (M.ex c : M α).bind f = .ex c := rfl
@[simp] theorem M.stuck_bind {α β : Type} (f : α → M β) : (M.stuck : M α).bind f = .stuck := rfl
/-- a name's or an expression's content: nothing, frozen data, an own list, a new list of nobody's -/
inductive L where
  | un | d (x : D) | own (xs : List D) | fr (xs : List D)
/-- the content as frozen data -/
def L.fz : L → M D
  | .d x => .ok x
  | .fr xs => .ok (.list xs)
  | _ => .stuck
/-- the items of a list or a tuple, as they may be read -/
def L.rd : L → M D
  | .d x => .ok x
  | .fr xs => .ok (.list xs)
  | .own xs => .ok (.list xs)
  | _ => .stuck
section
variable (S : Sys)
/-- a value that may be read; H0: what was ahead of its making -/
def WR (H0 G H : Hp) (v : V) : L → Prop
  | .un => False
  | .d x => DR S.K G v x
  | .own xs => ∃ p vs, v = .ref p ∧ H p = some (.lst vs) ∧ DRs S.K G vs xs
  | .fr xs => ∃ p vs, v = .ref p ∧ H0 p = none ∧ G p = none ∧ H p = some (.lst vs) ∧ DRs S.K G vs xs
inductive WRs (H0 G H : Hp) : List V → List L → Prop
  | nil : WRs H0 G H [] []
  | cons {v : V} {vs : List V} {l : L} {ls : List L} : WR S H0 G H v l → WRs H0 G H vs ls → WRs H0 G H (v :: vs) (l :: ls)
/-- a slot; as: the addresses that it owns -/
def SR (H0 G H : Hp) (sv : Option V) : L → List Addr → Prop
  | .un, as => as = []
  | .d x, as => as = [] ∧ ∃ v, sv = some v ∧ DR S.K G v x
  | .own xs, as => ∃ p vs, as = [p] ∧ sv = some (.ref p) ∧ H0 p = none ∧ G p = none ∧ H p = some (.lst vs) ∧ DRs S.K G vs xs
  | .fr _, _ => False
inductive SRs (H0 G H : Hp) : L2.St → List L → List (List Addr) → Prop
  | nil : SRs H0 G H [] [] []
  | cons {sv : Option V} {σ : L2.St} {l : L} {ls : List L} {as : List Addr} {ass : List (List Addr)} : SR S H0 G H sv l as → SRs H0 G H σ ls ass → SRs H0 G H (sv :: σ) (l :: ls) (as :: ass)
def EnvR (H0 G H : Hp) (σ : L2.St) (env : List L) : Prop := ∃ ass, SRs S H0 G H σ env ass ∧ ass.flatten.Nodup
end
section
variable {S : Sys} {H0 H0' G H G1 H1 G2 H2 : Hp} {v : V} {vs : List V} {l : L} {ls : List L} {sv : Option V} {as : List Addr} {σ : L2.St} {env : List L}
theorem WR.up (h : WR S H0 G H v l) (x : Gr S G H G1 H1) : WR S H0 G1 H1 v l := by
  cases l with
  | un => exact h
  | d y => exact DR.up h x.g
  | own xs =>
    obtain ⟨p, us, e, a, r⟩ := h
    exact ⟨p, us, e, x.h.lst a, r.up x.g⟩
  | fr xs =>
    obtain ⟨p, us, e, z, g, a, r⟩ := h
    exact ⟨p, us, e, z, x.n p (fun q => by rw [a] at q; cases q) g, x.h.lst a, r.up x.g⟩
theorem WR.back (h : WR S H0 G H v l) (x : ∀ p, H0 p = none → H0' p = none) : WR S H0' G H v l := by
  cases l with
  | un => exact h
  | d y => exact h
  | own xs => exact h
  | fr xs =>
    obtain ⟨p, us, e, z, g, a, r⟩ := h
    exact ⟨p, us, e, x p z, g, a, r⟩
theorem WRs.up (h : WRs S H0 G H vs ls) (x : Gr S G H G1 H1) : WRs S H0 G1 H1 vs ls := by
  induction h with
  | nil => exact .nil
  | cons a _ ih => exact .cons (a.up x) ih
theorem WRs.back (h : WRs S H0 G H vs ls) (x : ∀ p, H0 p = none → H0' p = none) : WRs S H0' G H vs ls := by
  induction h with
  | nil => exact .nil
  | cons a _ ih => exact .cons (a.back x) ih
/-- read as a list or what it is, in the whole heap -/
theorem WR.rd (h : WR S H0 G H v l) (sb : Sb G H) {d : D} (e : l.rd = .ok d) : DR S.K H v d := by
  cases l with
  | un => cases e
  | d y =>
    cases e
    exact DR.up h sb.xt
  | own xs =>
    cases e
    obtain ⟨p, us, rfl, a, r⟩ := h
    exact .lst a (r.up sb.xt)
  | fr xs =>
    cases e
    obtain ⟨p, us, rfl, _, _, a, r⟩ := h
    exact .lst a (r.up sb.xt)
theorem L.rd_of_fz {d : D} (e : l.fz = .ok d) : l.rd = .ok d := by
  cases l <;> first | exact e | cases e
/-- frozen -/
theorem WR.fz (h : WR S H G1 H1 v l) (x : Gr S G H G1 H1) {d : D} (e : l.fz = .ok d) : ∃ G2, Gr S G H G2 H1 ∧ DR S.K G2 v d := by
  cases l with
  | un => cases e
  | d y =>
    cases e
    exact ⟨G1, x, h⟩
  | own xs => cases e
  | fr xs =>
    cases e
    obtain ⟨p, us, rfl, z, g, a, r⟩ := h
    exact ⟨_, x.frz z g a (fun ps q => by cases q), .lst upd_same (r.up (Xt.upd g))⟩
theorem SR.up (h : SR S H0 G H sv l as) (x : Gr S G H G1 H1) : SR S H0 G1 H1 sv l as := by
  cases l with
  | un => exact h
  | d y =>
    obtain ⟨e, v, e2, r⟩ := h
    exact ⟨e, v, e2, r.up x.g⟩
  | own xs =>
    obtain ⟨p, us, e, e2, z, g, a, r⟩ := h
    exact ⟨p, us, e, e2, z, x.n p (fun q => by rw [a] at q; cases q) g, x.h.lst a, r.up x.g⟩
  | fr xs => exact h
theorem SRs.up {ass : List (List Addr)} (h : SRs S H0 G H σ env ass) (x : Gr S G H G1 H1) : SRs S H0 G1 H1 σ env ass := by
  induction h with
  | nil => exact .nil
  | cons a _ ih => exact .cons (a.up x) ih
theorem EnvR.up (h : EnvR S H0 G H σ env) (x : Gr S G H G1 H1) : EnvR S H0 G1 H1 σ env := by
  obtain ⟨ass, a, n⟩ := h
  exact ⟨ass, a.up x, n⟩
/-- the addresses of a slot are known -/
theorem SR.known (h : SR S H0 G H sv l as) {p : Addr} (hp : p ∈ as) : H0 p = none ∧ G p = none ∧ ∃ xs, H p = some (.lst xs) := by
  cases l with
  | un =>
    have e : as = [] := h
    subst e
    cases hp
  | d y =>
    obtain ⟨rfl, _⟩ := h
    cases hp
  | own xs =>
    obtain ⟨q, us, rfl, e2, z, g, a, r⟩ := h
    have e : p = q := by simpa using hp
    subst e
    exact ⟨z, g, us, a⟩
  | fr xs => exact h.elim
theorem SRs.known {ass : List (List Addr)} (h : SRs S H0 G H σ env ass) {p : Addr} (hp : p ∈ ass.flatten) : H0 p = none ∧ G p = none ∧ ∃ xs, H p = some (.lst xs) := by
  induction h with
  | nil => cases hp
  | cons a _ ih =>
    rw [List.flatten_cons, List.mem_append] at hp
    rcases hp with hp | hp
    · exact a.known hp
    · exact ih hp
theorem SRs.get {ass : List (List Addr)} : ∀ {σ : L2.St} {env : List L} {ass : List (List Addr)} {i : Nat} {l : L}, SRs S H0 G H σ env ass → env[i]? = some l → ∃ sv as, σ[i]? = some sv ∧ ass[i]? = some as ∧ SR S H0 G H sv l as
  | _, _, _, _, _, .nil, e => by simp at e
  | _, _, _, 0, _, .cons a r, e => by simp at e; subst e; exact ⟨_, _, rfl, rfl, a⟩
  | _, _, _, i + 1, l, .cons _ r, e => by
    obtain ⟨sv, as, h1, h2, h3⟩ := SRs.get (ass := ass) (i := i) (l := l) r (by simpa using e)
    exact ⟨sv, as, by simpa using h1, by simpa using h2, h3⟩
theorem SRs.len {σ : L2.St} {env : List L} {ass : List (List Addr)} (h : SRs S H0 G H σ env ass) : σ.length = env.length ∧ ass.length = env.length := by
  induction h with
  | nil => exact ⟨rfl, rfl⟩
  | cons _ _ ih => exact ⟨by simp [ih.1], by simp [ih.2]⟩
theorem SRs.set {sv : Option V} {l : L} {as : List Addr} (x : SR S H0 G H sv l as) : ∀ {σ : L2.St} {env : List L} {ass : List (List Addr)} (i : Nat), SRs S H0 G H σ env ass → SRs S H0 G H (σ.set i sv) (env.set i l) (ass.set i as)
  | _, _, _, _, .nil => .nil
  | _, _, _, 0, .cons _ r => .cons x r
  | _, _, _, i + 1, .cons a r => .cons a (SRs.set x i r)
/-- the slots other than i, in a heap where the list at p is another: p is none of theirs -/
theorem SR.other {p : Addr} {o : HO} (h : SR S H0 G H sv l as) (hp : p ∉ as) : SR S H0 G (upd H p o) sv l as := by
  cases l with
  | un => exact h
  | d y => exact h
  | own xs =>
    obtain ⟨q, us, rfl, e2, z, g, a, r⟩ := h
    have hq : q ≠ p := fun e => hp (by simp [e])
    exact ⟨q, us, rfl, e2, z, g, by rw [upd_ne hq]; exact a, r⟩
  | fr xs => exact h
theorem SR.otherG {p : Addr} {o : HO} (h : SR S H0 G H sv l as) (hp : p ∉ as) (hg : G p = none) : SR S H0 (upd G p o) H sv l as := by
  cases l with
  | un => exact h
  | d y =>
    obtain ⟨e, v, e2, r⟩ := h
    exact ⟨e, v, e2, r.up (Xt.upd hg)⟩
  | own xs =>
    obtain ⟨q, us, rfl, e2, z, g, a, r⟩ := h
    have hq : q ≠ p := fun e => hp (by simp [e])
    exact ⟨q, us, rfl, e2, z, by rw [upd_ne hq]; exact g, a, r.up (Xt.upd hg)⟩
  | fr xs => exact h
theorem SRs.other {p : Addr} {o : HO} {ass : List (List Addr)} (h : SRs S H0 G H σ env ass) (hp : p ∉ ass.flatten) : SRs S H0 G (upd H p o) σ env ass := by
  induction h with
  | nil => exact .nil
  | cons a _ ih =>
    rw [List.flatten_cons, List.mem_append, not_or] at hp
    exact .cons (a.other hp.1) (ih hp.2)
theorem SRs.otherG {p : Addr} {o : HO} {ass : List (List Addr)} (h : SRs S H0 G H σ env ass) (hp : p ∉ ass.flatten) (hg : G p = none) : SRs S H0 (upd G p o) H σ env ass := by
  induction h with
  | nil => exact .nil
  | cons a _ ih =>
    rw [List.flatten_cons, List.mem_append, not_or] at hp
    exact .cons (a.otherG hp.1 hg) (ih hp.2)
/-- one slot's content changes with the heap at its own address -/
theorem SRs.change {p : Addr} {o : HO} {as' : List Addr} {l' : L} {sv' : Option V} : ∀ {σ : L2.St} {env : List L} {ass : List (List Addr)} (i : Nat), SRs S H0 G H σ env ass → ass.flatten.Nodup → ass[i]? = some [p] → SR S H0 G (upd H p o) sv' l' as' →
    SRs S H0 G (upd H p o) (σ.set i sv') (env.set i l') (ass.set i as')
  | _, _, _, _, .nil, _, _, _ => .nil
  | _, _, _, 0, .cons _ r, n, e, x => by
    simp at e
    subst e
    rw [List.flatten_cons, List.nodup_append] at n
    refine .cons x (r.other fun hp => n.2.2 p (by simp) p hp rfl)
  | _, _, _, i + 1, .cons (as := as) (ass := ass) a r, n, e, x => by
    rw [List.flatten_cons, List.nodup_append] at n
    have e' : ass[i]? = some [p] := by simpa using e
    refine .cons (a.other fun hp => n.2.2 p hp p (List.mem_flatten.mpr ⟨[p], List.mem_of_getElem? e', by simp⟩) rfl) (SRs.change i r n.2.1 e' x)
theorem SRs.changeG {p : Addr} {o : HO} {as' : List Addr} {l' : L} {sv' : Option V} (hg : G p = none) : ∀ {σ : L2.St} {env : List L} {ass : List (List Addr)} (i : Nat), SRs S H0 G H σ env ass → ass.flatten.Nodup → ass[i]? = some [p] → SR S H0 (upd G p o) H sv' l' as' →
    SRs S H0 (upd G p o) H (σ.set i sv') (env.set i l') (ass.set i as')
  | _, _, _, _, .nil, _, _, _ => .nil
  | _, _, _, 0, .cons _ r, n, e, x => by
    simp at e
    subst e
    rw [List.flatten_cons, List.nodup_append] at n
    refine .cons x (r.otherG (fun hp => n.2.2 p (by simp) p hp rfl) hg)
  | _, _, _, i + 1, .cons (as := as) (ass := ass) a r, n, e, x => by
    rw [List.flatten_cons, List.nodup_append] at n
    have e' : ass[i]? = some [p] := by simpa using e
    refine .cons (a.otherG (fun hp => n.2.2 p hp p (List.mem_flatten.mpr ⟨[p], List.mem_of_getElem? e', by simp⟩) rfl) hg) (SRs.changeG hg i r n.2.1 e' x)
theorem nodup_set {as : List Addr} : ∀ {ass : List (List Addr)} (i : Nat), ass.flatten.Nodup → as.Nodup → (∀ p ∈ as, p ∈ ass.flatten → ∃ bs, ass[i]? = some bs ∧ p ∈ bs) → (ass.set i as).flatten.Nodup
  | [], _, _, _, _ => by simp
  | b :: ass, 0, n, na, h => by
    rw [List.flatten_cons, List.nodup_append] at n
    show (as ++ ass.flatten).Nodup
    rw [List.nodup_append]
    refine ⟨na, n.2.1, fun p hp q hq e => ?_⟩
    subst e
    obtain ⟨bs, h1, h2⟩ := h p hp (by rw [List.flatten_cons, List.mem_append]; exact .inr hq)
    simp at h1
    subst h1
    exact n.2.2 p h2 p hq rfl
  | b :: ass, i + 1, n, na, h => by
    rw [List.flatten_cons, List.nodup_append] at n
    show (b ++ (ass.set i as).flatten).Nodup
    have key : ∀ p ∈ as, p ∈ ass.flatten → ∃ bs, ass[i]? = some bs ∧ p ∈ bs := fun p hp hq => by
      obtain ⟨bs, h1, h2⟩ := h p hp (by rw [List.flatten_cons, List.mem_append]; exact .inr hq)
      exact ⟨bs, by simpa using h1, h2⟩
    rw [List.nodup_append]
    refine ⟨n.1, nodup_set i n.2.1 na key, fun p hp q hq e => ?_⟩
    subst e
    obtain ⟨c, hc, hpc⟩ := List.mem_flatten.mp hq
    rcases List.mem_or_eq_of_mem_set hc with z | z
    · exact n.2.2 p hp p (List.mem_flatten.mpr ⟨c, z, hpc⟩) rfl
    · subst z
      obtain ⟨bs, h1, h2⟩ := h p hpc (by rw [List.flatten_cons, List.mem_append]; exact .inl hp)
      have h1' : ass[i]? = some bs := by simpa using h1
      exact n.2.2 p hp p (List.mem_flatten.mpr ⟨bs, List.mem_of_getElem? h1', h2⟩) rfl
/-- a slot gets frozen data, or nothing -/
theorem EnvR.setD (h : EnvR S H0 G H σ env) (i : Nat) {d : D} (r : DR S.K G v d) : EnvR S H0 G H (σ.set i (some v)) (env.set i (.d d)) := by
  obtain ⟨ass, a, n⟩ := h
  exact ⟨_, a.set (as := []) (l := .d d) (sv := some v) ⟨rfl, v, rfl, r⟩ i, nodup_set i n (by simp) (by simp)⟩
theorem EnvR.setU (h : EnvR S H0 G H σ env) (i : Nat) (sv : Option V) : EnvR S H0 G H (σ.set i sv) (env.set i .un) := by
  obtain ⟨ass, a, n⟩ := h
  exact ⟨_, a.set (as := []) (l := .un) (sv := sv) rfl i, nodup_set i n (by simp) (by simp)⟩
/-- a slot gets a new list -/
theorem EnvR.setN (h : EnvR S H0 G H σ env) (i : Nat) {p : Addr} {vs : List V} {xs : List D} (h0 : H0 p = none) (hg : G p = none) (hp : H p = some (.lst vs)) (r : DRs S.K G vs xs) (new : ∀ (j : Nat) (sv : Option V) (l : L) (as : List Addr), σ[j]? = some sv → env[j]? = some l → SR S H0 G H sv l as → p ∉ as) :
    EnvR S H0 G H (σ.set i (some (.ref p))) (env.set i (.own xs)) := by
  obtain ⟨ass, a, n⟩ := h
  refine ⟨_, a.set (as := [p]) (l := .own xs) (sv := some (.ref p)) ⟨p, vs, rfl, rfl, h0, hg, hp, r⟩ i, nodup_set i n (by simp) fun q hq hf => ?_⟩
  have e : q = p := by simpa using hq
  subst e
  obtain ⟨bs, hb, hqb⟩ := List.mem_flatten.mp hf
  obtain ⟨j, hj⟩ := List.getElem?_of_mem hb
  have hlt : j < env.length := by
    rw [← a.len.2]
    exact (List.getElem?_eq_some_iff.mp hj).1
  obtain ⟨sv, as, h1, h2, h3⟩ := a.get (ass := ass) (i := j) (l := env[j]) (List.getElem?_eq_getElem hlt)
  rw [hj] at h2
  cases h2
  exact absurd hqb (new j sv _ bs h1 (List.getElem?_eq_getElem hlt) h3)
theorem EnvR.len (h : EnvR S H0 G H σ env) : σ.length = env.length := by
  obtain ⟨ass, a, _⟩ := h
  exact a.len.1
theorem EnvR.get (h : EnvR S H0 G H σ env) {i : Nat} (e : env[i]? = some l) : ∃ sv as, σ[i]? = some sv ∧ SR S H0 G H sv l as := by
  obtain ⟨ass, a, _⟩ := h
  obtain ⟨sv, as, h1, _, h3⟩ := a.get (ass := ass) e
  exact ⟨sv, as, h1, h3⟩
/-- the own list at i changes -/
theorem EnvR.write (h : EnvR S H0 G H σ env) {i : Nat} {xs : List D} (e : env[i]? = some (.own xs)) :
    ∃ p vs, σ[i]? = some (some (.ref p)) ∧ H0 p = none ∧ G p = none ∧ H p = some (.lst vs) ∧ DRs S.K G vs xs ∧
      (∀ vs' xs', DRs S.K G vs' xs' → EnvR S H0 G (upd H p (.lst vs')) σ (env.set i (.own xs'))) ∧ EnvR S H0 (upd G p (.lst vs)) H σ (env.set i (.d (.list xs))) := by
  obtain ⟨ass, a, n⟩ := h
  obtain ⟨sv, as, h1, h2, p, vs, rfl, rfl, z, g, hp, r⟩ := a.get (ass := ass) e
  have eσ : σ.set i (some (.ref p)) = σ := by
    obtain ⟨hlt, e2⟩ := List.getElem?_eq_some_iff.mp h1
    rw [← e2]
    exact List.set_getElem_self hlt
  refine ⟨p, vs, h1, z, g, hp, r, fun vs' xs' r' => ?_, ?_⟩
  · have c := a.change (o := .lst vs') (sv' := some (.ref p)) (l' := .own xs') (as' := [p]) i n h2 ⟨p, vs', rfl, rfl, z, g, upd_same, r'⟩
    rw [eσ] at c
    refine ⟨_, c, nodup_set i n (by simp) fun q hq hf => ⟨[p], h2, hq⟩⟩
  · have c := a.changeG (o := .lst vs) (sv' := some (.ref p)) (l' := .d (.list xs)) (as' := []) g i n h2 ⟨rfl, .ref p, rfl, .lst upd_same (r.up (Xt.upd g))⟩
    rw [eσ] at c
    exact ⟨_, c, nodup_set i n (by simp) (by simp)⟩
end
end PD
/-! how readings go; contexts; the parts of expressions -/
namespace PD
open PySem PySem.Spec PyProof.Rows L2
section
variable (S : Sys) (E : XK)
/-- what a reading reaches -/
def EvG {α β : Type} (R : Hp → Hp → Hp → α → β → Prop) (tq : (α → Hp → Prop) → Prop) (G H : Hp) : M β → Prop
  | .stuck => True
  | .ex c => ∀ Q : α → Hp → Prop, (∀ G2 H2, Gr S G H G2 H2 → E (.ref (S.ca c)) none H2) → tq Q
  | .ok b => ∀ Q : α → Hp → Prop, (∀ a G2 H2, Gr S G H G2 H2 → R H G2 H2 a b → Q a H2) → tq Q
abbrev RB : Hp → Hp → Hp → Bool → Bool → Prop := fun _ _ _ a b => a = b
abbrev RO : Hp → Hp → Hp → Option Int → Option Int → Prop := fun _ _ _ a b => a = b
abbrev EvW (te : TE) (σ : L2.St) (G H : Hp) (r : M L) : Prop := EvG S E (WR S) (te σ H) G H r
abbrev EvB (tt : TT) (σ : L2.St) (G H : Hp) (r : M Bool) : Prop := EvG S E RB (tt σ H) G H r
abbrev EvA (ta : TA) (σ : L2.St) (G H : Hp) (r : M (List L)) : Prop := EvG S E (WRs S) (ta σ H) G H r
abbrev EvO (to : TO) (σ : L2.St) (G H : Hp) (r : M (Option Int)) : Prop := EvG S E RO (to σ H) G H r
end
/-- what a relation wants of its start -/
def Bk {α β : Type} (R : Hp → Hp → Hp → α → β → Prop) : Prop := ∀ (H H' G2 H2 : Hp) a b, (∀ p, H p = none → H' p = none) → R H G2 H2 a b → R H' G2 H2 a b
theorem bk_W (S : Sys) : Bk (WR S) := fun _ _ _ _ _ _ x h => h.back x
theorem bk_Ws (S : Sys) : Bk (WRs S) := fun _ _ _ _ _ _ x h => h.back x
theorem bk_B : Bk RB := fun _ _ _ _ _ _ _ h => h
theorem bk_O : Bk RO := fun _ _ _ _ _ _ _ h => h
section
variable {S : Sys} {E : XK} {G H : Hp} {α β γ δ : Type} {R : Hp → Hp → Hp → α → β → Prop} {R' : Hp → Hp → Hp → γ → δ → Prop}
theorem EvG.bind {tq : (α → Hp → Prop) → Prop} {k : α → Hp → (γ → Hp → Prop) → Prop} {r : M β} {g : β → M δ} (h : EvG S E R tq G H r)
    (hk : ∀ a b G2 H2, r = .ok b → Gr S G H G2 H2 → R H G2 H2 a b → ∃ G3, Gr S G H G3 H2 ∧ EvG S E (fun _ => R' H) (k a H2) G3 H2 (g b)) :
    EvG S E R' (fun Q => tq fun a H2 => k a H2 Q) G H (r.bind g) := by
  cases r with
  | stuck => exact True.intro
  | ex c => exact fun Q q => h _ q
  | ok b =>
    show EvG S E R' _ G H (g b)
    cases e : g b with
    | stuck => exact True.intro
    | ex c =>
      refine fun Q q => h _ fun a G2 H2 x ra => ?_
      obtain ⟨G3, y, ev⟩ := hk a b G2 H2 rfl x ra
      rw [e] at ev
      exact ev Q fun G4 H4 z => q G4 H4 (y.trans z)
    | ok d =>
      refine fun Q q => h _ fun a G2 H2 x ra => ?_
      obtain ⟨G3, y, ev⟩ := hk a b G2 H2 rfl x ra
      rw [e] at ev
      exact ev Q fun c G4 H4 z rc => q c G4 H4 (y.trans z) rc
theorem EvG.weak {tq : (α → Hp → Prop) → Prop} {r : M β} {H0 : Hp} (bk : Bk R) (h : EvG S E R tq G H r) (x : ∀ p, H p = none → H0 p = none) : EvG S E (fun _ => R H0) tq G H r := by
  cases r with
  | stuck => exact True.intro
  | ex c => exact h
  | ok b => exact fun Q q => h Q fun a G2 H2 y ra => q a G2 H2 y (bk _ _ _ _ _ _ x ra)
/-- at once -/
theorem EvG.now {tq : (α → Hp → Prop) → Prop} {b : β} (sb : Sb G H) (h : ∀ Q : α → Hp → Prop, (∀ a, R H G H a b → Q a H) → tq Q) : EvG S E R tq G H (.ok b) := fun Q q =>
  h Q fun a ra => q a G H (Gr.refl sb) ra
theorem EvG.stk {tq : (α → Hp → Prop) → Prop} : EvG S E R tq G H .stuck := True.intro
theorem EvG.imp {tq tq' : (α → Hp → Prop) → Prop} {r : M β} (h : EvG S E R tq G H r) (x : ∀ Q, tq Q → tq' Q) : EvG S E R tq' G H r := by
  cases r with
  | stuck => exact True.intro
  | ex c => exact fun Q q => x _ (h Q q)
  | ok b => exact fun Q q => x _ (h Q q)
/-- its result another word for the same -/
theorem EvG.map {tq : (α → Hp → Prop) → Prop} {R2 : Hp → Hp → Hp → α → δ → Prop} {r : M β} {g : β → M δ} (h : EvG S E R tq G H r)
    (hk : ∀ a b G2 H2 d, r = .ok b → g b = .ok d → Gr S G H G2 H2 → R H G2 H2 a b → ∃ G3, Gr S G H G3 H2 ∧ R2 H G3 H2 a d) (hx : ∀ b c, g b ≠ .ex c) : EvG S E R2 tq G H (r.bind g) := by
  cases r with
  | stuck => exact True.intro
  | ex c => exact h
  | ok b =>
    show EvG S E R2 _ G H (g b)
    cases e : g b with
    | stuck => exact True.intro
    | ex c => exact absurd e (hx b c)
    | ok d =>
      refine fun Q q => h Q fun a G2 H2 x ra => ?_
      obtain ⟨G3, y, r2⟩ := hk a b G2 H2 d rfl e x ra
      exact q a G3 H2 y r2
end
/-! ### contexts -/
/-- f, the def's promise: data in, data out -/
def spD (S : Sys) (n : Nat) (f : List D → M D) : Sp := fun vs H Q E => ∃ G ds, vs.length = n ∧ Sb G H ∧ LamX.Tabs S.T H ∧ DRs S.K G vs ds ∧ match f ds with
  | .stuck => False
  | .ex c => ∀ G' H', Gr S G H G' H' → E (.ref (S.ca c)) none H'
  | .ok d => ∀ v G' H', Gr S G H G' H' → DR S.K G' v d → Q v H'
structure FnAt (S : Sys) (k : Nat) (x : Str) (n : Nat) (f : List D → M D) : Prop where
  ex : ∃ fa fd ps, S.mg x = some (.ref fa) ∧ ps.length = n ∧ Binds S.K fd ps [] ∧ PySem.W.keepIn S.K (.ref fa) = true ∧ FnOk S.P S.w S.K S.mg S.base (L2.CX S.P S.w) k fa fd ps (spD S n f)
structure FnE where
  x : Str
  n : Nat
  f : List D → M D
/-- what a def's text is read by: its names, its functions, the constants -/
structure CC where
  N : List Str
  fns : List FnE
  con : List (Str × D)
structure SC where
  sc : Scope
  fn : Str → Bool
def bltNames : List Str := ["len", "range", "isinstance", "int", "str", "bool", "list", "tuple", "sum", "all", "any", "max", "min", "sorted", "set", "zip", "enumerate", "abs", "dict"]
structure CtxOk (S : Sys) (k : Nat) (E : XK) (cc : CC) (sc : SC) (X : Cx) : Prop where
  P : X.prog = S.P
  w : X.w = S.w
  K : X.K = S.K
  mg : X.mg = S.mg
  base : X.base = S.base
  N : X.N = cc.N
  nd : cc.N.Nodup
  calm : X.calm = true
  scp : X.env.scope = sc.sc
  fn : X.fn = sc.fn
  room : Room k X.A
  pass : Passes (L2.CX S.P S.w) X E
structure CcOk (S : Sys) (k : Nat) (cc : CC) : Prop where
  fns : ∀ e ∈ cc.fns, FnAt S k e.x e.n e.f
  con : ∀ e ∈ cc.con, ∃ v u, S.mg e.1 = some u ∧ RelV v u ∧ ∀ G, DR S.K G v e.2
  blt : ∀ x ∈ bltNames, (∃ e ∈ cc.fns, e.x = x) ∨ S.mg x = none
abbrev EF := List L → M L
abbrev TF := List L → M Bool
abbrev AF := List L → M (List L)
abbrev OF := List L → M (Option Int)
/-- the states that a reading starts in -/
structure At (S : Sys) (H0 G H : Hp) (σ : L2.St) (env : List L) : Prop where
  sb : Sb G H
  tb : LamX.Tabs S.T H
  env : EnvR S H0 G H σ env
theorem At.up {S : Sys} {H0 G H G1 H1 : Hp} {σ : L2.St} {env : List L} (a : At S H0 G H σ env) (x : Gr S G H G1 H1) : At S H0 G1 H1 σ env := ⟨x.gh, x.t a.tb, a.env.up x⟩
section
variable (S : Sys) (k : Nat) (E : XK) (cc : CC) (sc : SC)
def CE (e : Expr) (f : EF) : Prop := ∃ t : TE, (∀ X, CtxOk S k E cc sc X → PE X e t) ∧ ∀ H0 G H σ env, At S H0 G H σ env → EvW S E t σ G H (f env)
def CT (e : Expr) (f : TF) : Prop := ∃ t : TT, (∀ X, CtxOk S k E cc sc X → PT X e t) ∧ ∀ H0 G H σ env, At S H0 G H σ env → EvB S E t σ G H (f env)
def CA (es : List Expr) (f : AF) : Prop := ∃ t : TA, (∀ X, CtxOk S k E cc sc X → PA X es t) ∧ ∀ H0 G H σ env, At S H0 G H σ env → EvA S E t σ G H (f env)
def CO (e : Option Expr) (f : OF) : Prop := ∃ t : TO, (∀ X, CtxOk S k E cc sc X → PO X e t) ∧ ∀ H0 G H σ env, At S H0 G H σ env → EvO S E t σ G H (f env)
end
/-! ### names and constants -/
def eC (d : D) : EF := fun _ => .ok (.d d)
def eVar (i : Nat) : EF := fun env => match env[i]? with
  | none => .stuck
  | some .un => .stuck
  | some l => .ok l
section
variable {S : Sys} {k : Nat} {E : XK} {cc : CC} {sc : SC}
theorem ce_c {e : Expr} {v : V} {d : D} (h : ∀ X, CtxOk S k E cc sc X → PE X e (tC v)) (r : ∀ G, DR S.K G v d) : CE S k E cc sc e (eC d) :=
  ⟨_, h, fun H0 G H σ env a => EvG.now a.sb fun Q q => q v (r G)⟩
theorem ce_var {x : Str} {i : Nat} {pos : Pos} (hi : cc.N[i]? = some x) (hv : Vis sc.sc x) (hd : (x == ("__debug__" : Str)) = false) (hcd : (x == ("__classdict__" : Str)) = false) : CE S k E cc sc (.Name x pos) (eVar i) := by
  refine ⟨tVar i, fun X c => pe_var (by rw [c.N]; exact hi) (by rw [c.scp]; exact hv) hd hcd, fun H0 G H σ env a => ?_⟩
  unfold eVar
  cases e : env[i]? with
  | none => exact EvG.stk
  | some l =>
    obtain ⟨sv, as, h1, h2⟩ := a.env.get e
    cases l with
    | un => exact EvG.stk
    | d x =>
      obtain ⟨_, v, rfl, r⟩ := h2
      exact EvG.now a.sb fun Q q => ⟨v, h1, q v r⟩
    | own xs =>
      obtain ⟨p, vs, _, rfl, _, _, hp, r⟩ := h2
      exact EvG.now a.sb fun Q q => ⟨_, h1, q _ ⟨p, vs, rfl, hp, r⟩⟩
    | fr xs => exact h2.elim
/-! ### two expressions and an operation -/
def eBin (op : L → L → M L) (f g : EF) : EF := fun env => (f env).bind fun a => (g env).bind fun b => op a b
def eUn (op : L → M L) (f : EF) : EF := fun env => (f env).bind op
/-- an operation by values -/
def OpS (S : Sys) (E : XK) (r : R2) (op : L → L → M L) : Prop := ∀ (HA HB G H : Hp) x y a b, Sb G H → WR S HA G H x a → WR S HB G H y b → EvG S E (WR S) (r x y H) G H (op a b)
theorem ce_op {r : R2} {op : L → L → M L} {a b e : Expr} {f g : EF} (he : ∀ X, CtxOk S k E cc sc X → ∀ ta tb, PE X a ta → PE X b tb → PE X e (tOp r ta tb)) (ho : OpS S E r op) (ha : CE S k E cc sc a f) (hb : CE S k E cc sc b g) :
    CE S k E cc sc e (eBin op f g) := by
  obtain ⟨ta, pa, va⟩ := ha
  obtain ⟨tb, pb, vb⟩ := hb
  refine ⟨tOp r ta tb, fun X c => he X c ta tb (pa X c) (pb X c), fun H0 G H σ env at0 => ?_⟩
  refine EvG.bind (tq := ta σ H) (k := fun x H1 Q => tb σ H1 fun y H2 => r x y H2 Q) (va H0 G H σ env at0) fun x l G2 H2 _ x2 r2 => ⟨G2, x2, ?_⟩
  refine EvG.bind (tq := tb σ H2) (k := fun y H2 Q => r x y H2 Q) (vb H0 G2 H2 σ env (at0.up x2)) fun y l2 G3 H3 _ x3 r3 => ⟨G3, x3, ?_⟩
  exact (ho _ _ G3 H3 x y l l2 x3.gh (r2.up x3) r3).weak (bk_W S) fun p h => x2.dom p (x3.dom p h)
def UnS (S : Sys) (E : XK) (r : V → Hp → VK → Prop) (op : L → M L) : Prop := ∀ (HA G H : Hp) x a, Sb G H → WR S HA G H x a → EvG S E (WR S) (r x H) G H (op a)
theorem ce_un {r : V → Hp → VK → Prop} {op : L → M L} {a e : Expr} {f : EF} (he : ∀ X, CtxOk S k E cc sc X → ∀ ta, PE X a ta → PE X e (tUn r ta)) (ho : UnS S E r op) (ha : CE S k E cc sc a f) : CE S k E cc sc e (eUn op f) := by
  obtain ⟨ta, pa, va⟩ := ha
  refine ⟨tUn r ta, fun X c => he X c ta (pa X c), fun H0 G H σ env at0 => ?_⟩
  exact EvG.bind (tq := ta σ H) (k := fun x H1 Q => r x H1 Q) (va H0 G H σ env at0) fun x l G2 H2 _ x2 r2 => ⟨G2, x2, (ho _ G2 H2 x l x2.gh r2).weak (bk_W S) x2.dom⟩
/-! ### arguments -/
def aNil : AF := fun _ => .ok []
def aCons (f : EF) (g : AF) : AF := fun env => (f env).bind fun a => (g env).bind fun b => .ok (a :: b)
def notStar : Expr → Bool
  | .Starred _ _ => false
  | _ => true
theorem star_cons {e : Expr} {es : List Expr} {env : Env} (h : notStar e = true) : starEach (e :: es) env = (false, eval e env) :: starEach es env := by
  cases e <;> first | rfl | cases h
theorem ca_nil : CA S k E cc sc [] aNil := ⟨tNil, fun X c => pa_nil, fun H0 G H σ env a => EvG.now a.sb fun Q q => q _ .nil⟩
theorem ca_cons {e : Expr} {es : List Expr} {f : EF} {g : AF} (hs : notStar e = true) (ha : CE S k E cc sc e f) (hb : CA S k E cc sc es g) : CA S k E cc sc (e :: es) (aCons f g) := by
  obtain ⟨ta, pa, va⟩ := ha
  obtain ⟨tb, pb, vb⟩ := hb
  refine ⟨tCons ta tb, fun X c => pa_cons (pa X c) (pb X c) (star_cons hs), fun H0 G H σ env at0 => ?_⟩
  refine EvG.bind (tq := ta σ H) (k := fun x H1 Q => tb σ H1 fun xs H2 => Q (x :: xs) H2) (va H0 G H σ env at0) fun x l G2 H2 _ x2 r2 => ⟨G2, x2, ?_⟩
  refine EvG.bind (tq := tb σ H2) (k := fun xs H2 Q => Q (x :: xs) H2) (vb H0 G2 H2 σ env (at0.up x2)) fun y l2 G3 H3 _ x3 r3 => ⟨G3, x3, ?_⟩
  exact EvG.now x3.gh fun Q q => q _ (.cons (r2.up x3) (r3.back x2.dom))
end
end PD
/-! operations on data -/
namespace PD
open PySem PySem.Spec PyProof.Rows L2
def cap : Nat := 100000
theorem cap_le {n : Nat} (h : n ≤ cap) : n ≤ sizeLine := Nat.le_trans h (by decide)
theorem cap_lt {n : Nat} (h : n ≤ cap) : n < sizeLine := Nat.lt_of_le_of_lt h (by decide)
section
variable {K : Frg} {G H : Hp} {v : V}
theorem DR.toInt {i : Int} (h : DR K G v (.int i)) : v = .int i := by cases h; rfl
theorem DR.toBl {i : Bool} (h : DR K G v (.bool i)) : v = .bl i := by cases h; rfl
theorem DR.toStr {i : Str} (h : DR K G v (.str i)) : v = .str i := by cases h; rfl
theorem DR.toNon (h : DR K G v .none) : v = .non := by cases h; rfl
theorem DR.toTup {ds : List D} (h : DR K G v (.tuple ds)) : ∃ a vs, v = .ref a ∧ SqT K G a vs ∧ DRs K G vs ds := by cases h with | tup a b => exact ⟨_, _, rfl, a, b⟩
theorem DR.toLst {ds : List D} (h : DR K G v (.list ds)) : ∃ a vs, v = .ref a ∧ G a = some (.lst vs) ∧ DRs K G vs ds := by cases h with | lst a b => exact ⟨_, _, rfl, a, b⟩
theorem DR.isNon {d : D} (h : DR K G v d) : decide (v = .non) = (match d with | .none => true | _ => false) := by
  cases h <;> simp
end
/-- the script's list is a list -/
def unS : D → D
  | .dict [(.none, .list xs)] => .list xs
  | d => d
mutual
theorem DR.dp {K : Frg} {H : Hp} : ∀ (d : D) (v : V), DR K H v d → d.canLay0 = true → Dp K H v d
  | d, v, h, p => by
    cases h with
    | non => exact .non
    | bl b => exact .bl b
    | int i => exact .int i
    | str y => exact .str y
    | lst e r => exact .lst (SqL.of e) (DRs.dp _ _ r (by simpa [PyData.canLay0] using p))
    | tup e r => exact .tup e (DRs.dp _ _ r (by simpa [PyData.canLay0] using p))
    | scr e => simp [PyData.canLay0] at p
termination_by d => sizeOf d
theorem DRs.dp {K : Frg} {H : Hp} : ∀ (ds : List D) (vs : List V), DRs K H vs ds → PyData.canLayAll0 ds = true → DpAll K H vs ds
  | ds, vs, h, p => by
    cases h with
    | nil => exact .nil
    | cons a r =>
      have p' := p
      simp only [PyData.canLayAll0, Bool.and_eq_true] at p'
      exact .cons (DR.dp _ _ a p'.1) (DRs.dp _ _ r p'.2)
termination_by ds => sizeOf ds
end
theorem dp_ints {K : Frg} {H : Hp} : ∀ ns : List Int, DpAll K H (ns.map V.int) (ns.map PyData.int)
  | [] => .nil
  | n :: ns => .cons (.int n) (dp_ints ns)
theorem DR.dpU {K : Frg} {H : Hp} {v : V} {d : D} (h : DR K H v d) (p : SeqAt.shaped (unS d) = true) : Dp K H v (unS d) := by
  have q := SeqAt.canLay_of_shaped p
  cases h with
  | scr e => exact .lst e (dp_ints _)
  | non => exact .non
  | bl b => exact .bl b
  | int i => exact .int i
  | str y => exact .str y
  | lst e r => exact DR.dp _ _ (.lst e r) q
  | tup e r => exact DR.dp _ _ (.tup e r) q
/-! ### the operations -/
def int2 (f : Int → Int → M L) : L → L → M L
  | .d (.int i), .d (.int j) => f i j
  | _, _ => .stuck
def okI (i : Int) : M L := .ok (.d (.int i))
def okB (b : Bool) : M L := .ok (.d (.bool b))
def opCat : M D → M D → M L
  | .ok (.list xs), .ok (.list ys) => if xs.length + ys.length ≤ cap then .ok (.fr (xs ++ ys)) else .stuck
  | _, _ => .stuck
def opAdd : L → L → M L
  | .d (.int i), .d (.int j) => okI (i + j)
  | .d (.str i), .d (.str j) => if i.length + j.length ≤ cap then .ok (.d (.str (i ++ j))) else .stuck
  | .d (.tuple xs), .d (.tuple ys) => if xs.length + ys.length ≤ cap then .ok (.d (.tuple (xs ++ ys))) else .stuck
  | a, b => opCat a.rd b.rd
def opSub : L → L → M L := int2 fun i j => okI (i - j)
def wideB : Int := 2 ^ 500
def small (i : Int) : Bool := decide (-(2 ^ 64) < i) && decide (i < 2 ^ 64)
def mid (i : Int) : Bool := decide (i.natAbs < 2 ^ 500)
def opMulI (i j : Int) : M L := if (small i || small j || (mid i && mid j)) = true then okI (i * j) else .stuck
def opRep : M D → Int → M L
  | .ok (.list xs), k => if -(2 ^ 63) ≤ k ∧ k < 2 ^ 63 ∧ xs.length * k.toNat ≤ cap then .ok (.fr (List.replicate k.toNat xs).flatten) else .stuck
  | _, _ => .stuck
def opMul : L → L → M L
  | .d (.int i), .d (.int j) => opMulI i j
  | a, .d (.int k) => opRep a.rd k
  | _, _ => .stuck
def opDiv : L → L → M L := int2 fun i j => if 0 < j ∧ mid j = true then okI (i / j) else .stuck
def opMod : L → L → M L := int2 fun i j => if 0 < j then okI (i % j) else .stuck
def opPow : L → L → M L := int2 fun i j => if 0 ≤ j ∧ j ≤ 1000 ∧ i.natAbs < 2 ^ 64 then okI (i ^ j.toNat) else .stuck
def opEq2 (neg : Bool) : M D → M D → M L
  | .ok x, .ok y => if SeqAt.shaped (unS x) = true ∧ SeqAt.shaped (unS y) = true then okB (if neg then !PyData.eqv (unS x) (unS y) else PyData.eqv (unS x) (unS y)) else .stuck
  | _, _ => .stuck
def opEq (neg : Bool) (a b : L) : M L := opEq2 neg a.rd b.rd
/-- the ints of a row -/
def intsOf : List D → Option (List Int)
  | [] => some []
  | .int i :: r => (intsOf r).map (i :: ·)
  | _ :: _ => none
def boolsOf : List D → Option (List Bool)
  | [] => some []
  | .bool i :: r => (boolsOf r).map (i :: ·)
  | _ :: _ => none
theorem intsOf_eq : ∀ {ds : List D} {ns : List Int}, intsOf ds = some ns → ds = ns.map PyData.int
  | [], ns, h => by cases h; rfl
  | d :: r, ns, h => by
    cases d <;> first | (cases h; done) | skip
    rename_i i
    have h' : (intsOf r).map (i :: ·) = some ns := h
    cases e : intsOf r with
    | none => rw [e] at h'; cases h'
    | some ms =>
      rw [e] at h'
      cases h'
      rw [intsOf_eq e]
      rfl
theorem boolsOf_eq : ∀ {ds : List D} {ns : List Bool}, boolsOf ds = some ns → ds = ns.map PyData.bool
  | [], ns, h => by cases h; rfl
  | d :: r, ns, h => by
    cases d <;> first | (cases h; done) | skip
    rename_i i
    have h' : (boolsOf r).map (i :: ·) = some ns := h
    cases e : boolsOf r with
    | none => rw [e] at h'; cases h'
    | some ms =>
      rw [e] at h'
      cases h'
      rw [boolsOf_eq e]
      rfl
def opLt : L → L → M L
  | .d (.int i), .d (.int j) => okB (decide (i < j))
  | .d (.tuple xs), .d (.tuple ys) => match intsOf xs, intsOf ys with
    | some ns, some ms => okB (HT.lexLt ns ms)
    | _, _ => .stuck
  | _, _ => .stuck
def opLe : L → L → M L
  | .d (.int i), .d (.int j) => okB (decide (i ≤ j))
  | .d (.tuple xs), .d (.tuple ys) => match intsOf xs, intsOf ys with
    | some ns, some ms => okB (Ob.lexAt (fun j => decide (ns.getD j 0 = ms.getD j 0)) (fun j => decide (ns.getD j 0 ≤ ms.getD j 0)) (decide (ns.length ≤ ms.length)) 0 (min ns.length ms.length))
    | _, _ => .stuck
  | _, _ => .stuck
def opGt : L → L → M L := int2 fun i j => okB (decide (j < i))
def opGe : L → L → M L := int2 fun i j => okB (decide (j ≤ i))
def flatD : D → Bool
  | .none | .bool _ | .int _ | .str _ => true
  | _ => false
def opIn2 (neg : Bool) : M D → M D → M L
  | .ok x, .ok (.list ys) => if SeqAt.shaped x = true ∧ SeqAt.shaped (.list ys) = true then okB (if neg then !ys.any fun z => PyData.eqv z x else ys.any fun z => PyData.eqv z x) else .stuck
  | .ok x, .ok (.tuple ys) => if flatD x = true ∧ ys.all flatD = true then okB (if neg then !ys.any fun z => PyData.eqv z x else ys.any fun z => PyData.eqv z x) else .stuck
  | _, _ => .stuck
def opIn (neg : Bool) (a b : L) : M L := opIn2 neg a.rd b.rd
def opIsN (neg : Bool) : L → M L
  | .d .none => okB (!neg)
  | .un => .stuck
  | _ => okB neg
def bool2 (f : Bool → Bool → M L) : L → L → M L
  | .d (.bool a), .d (.bool b) => f a b
  | _, _ => .stuck
def opIsB (neg : Bool) : L → L → M L := bool2 fun a b => okB (if neg then !decide (a = b) else decide (a = b))
section
variable {S : Sys} {E : XK}
theorem okI_now {G H : Hp} {i : Int} (sb : Sb G H) {tq : (V → Hp → Prop) → Prop} (h : ∀ Q : V → Hp → Prop, Q (.int i) H → tq Q) : EvG S E (WR S) tq G H (okI i) := EvG.now sb fun Q q => h Q (q _ (.int i))
theorem okB_now {G H : Hp} {i : Bool} (sb : Sb G H) {tq : (V → Hp → Prop) → Prop} (h : ∀ Q : V → Hp → Prop, Q (.bl i) H → tq Q) : EvG S E (WR S) tq G H (okB i) := EvG.now sb fun Q q => h Q (q _ (.bl i))
/-- a new list -/
theorem ev_newL {G H : Hp} {vs : List V} {xs : List D} (sb : Sb G H) (r : DRs S.K G vs xs) {tq : (V → Hp → Prop) → Prop} (h : ∀ Q : V → Hp → Prop, (∀ p, H p = none → Q (.ref p) (upd H p (.lst vs))) → tq Q) : EvG S E (WR S) tq G H (.ok (.fr xs)) := fun Q q =>
  h Q fun p hp => q _ G _ (Gr.new sb hp) ⟨p, vs, rfl, hp, sb.none hp, upd_same, r⟩
theorem ev_newT {G H : Hp} {vs : List V} {xs : List D} (sb : Sb G H) (r : DRs S.K G vs xs) {tq : (V → Hp → Prop) → Prop} (h : ∀ Q : V → Hp → Prop, (∀ p, H p = none → Q (.ref p) (upd H p (.tup vs))) → tq Q) : EvG S E (WR S) tq G H (.ok (.d (.tuple xs))) := fun Q q =>
  h Q fun p hp => q _ _ _ (Gr.newF sb hp fun ps z => by cases z) (.tup (SqT.of upd_same) (r.up (Xt.upd (sb.none hp))))
theorem int2_ok {r : R2} {f : Int → Int → M L} (h : ∀ (G H : Hp) i j, Sb G H → EvG S E (WR S) (r (.int i) (.int j) H) G H (f i j)) : OpS S E r (int2 f) := fun HA HB G H x y a b sb ra rb => by
  unfold int2
  split
  · rename_i i j
    rw [DR.toInt ra, DR.toInt rb]
    exact h G H i j sb
  · exact EvG.stk
def rAdd (K : Frg) : R2 := fun x y H Q => rI0 (fun i j => .int (i + j)) x y H Q ∨ (∃ i j, x = .str i ∧ y = .str j ∧ i.length + j.length ≤ sizeLine ∧ Q (.str (i ++ j)) H) ∨ rCatA K x y H Q ∨ rCat x y H Q
theorem or_add {X : Cx} : OpR X (binaryOp .Add) (rAdd X.K) := op_add.or (op_add_str.or (op_catA.or op_cat))
theorem rd_lst {HA G H : Hp} {x : V} {a : L} {xs : List D} (sb : Sb G H) (ra : WR S HA G H x a) (e : a.rd = .ok (.list xs)) : ∃ p vs, x = .ref p ∧ H p = some (.lst vs) ∧ DRs S.K G vs xs := by
  cases a with
  | un => cases e
  | d y =>
    cases e
    obtain ⟨p, vs, rfl, hp, r⟩ := DR.toLst ra
    exact ⟨p, vs, rfl, sb.xt.lst hp, r⟩
  | own ys =>
    cases e
    exact ra
  | fr ys =>
    cases e
    obtain ⟨p, vs, rfl, _, _, hp, r⟩ := ra
    exact ⟨p, vs, rfl, hp, r⟩
theorem os_add : OpS S E (rAdd S.K) opAdd := fun HA HB G H x y a b sb ra rb => by
  unfold opAdd
  split
  · rename_i i j
    rw [DR.toInt ra, DR.toInt rb]
    exact okI_now sb fun Q q => .inl ⟨i, j, rfl, rfl, q⟩
  · rename_i i j
    split
    · rename_i h
      rw [DR.toStr ra, DR.toStr rb]
      exact EvG.now sb fun Q q => .inr (.inl ⟨i, j, rfl, rfl, cap_le h, q _ (.str _)⟩)
    · exact EvG.stk
  · rename_i xs ys
    split
    · rename_i h
      obtain ⟨p, vs, rfl, h1, r1⟩ := DR.toTup ra
      obtain ⟨p2, vs2, rfl, h2, r2⟩ := DR.toTup rb
      have hl : vs.length + vs2.length ≤ sizeLine := by rw [r1.length, r2.length]; exact cap_le h
      by_cases e1 : vs = []
      · subst e1
        cases r1
        exact EvG.now sb fun Q q => .inr (.inr (.inl ⟨p, p2, _, _, rfl, rfl, sb.xt.sqT h1, sb.xt.sqT h2, hl, fun _ => q _ (.tup h2 r2), fun z => absurd rfl z, fun z => absurd rfl z⟩))
      · by_cases e2 : vs2 = []
        · subst e2
          cases r2
          rw [List.append_nil]
          exact EvG.now sb fun Q q => .inr (.inr (.inl ⟨p, p2, _, _, rfl, rfl, sb.xt.sqT h1, sb.xt.sqT h2, hl, fun z => absurd z e1, fun _ _ => q _ (.tup h1 r1), fun _ z => absurd rfl z⟩))
        · exact ev_newT sb (r1.append r2) fun Q q => .inr (.inr (.inl ⟨p, p2, _, _, rfl, rfl, sb.xt.sqT h1, sb.xt.sqT h2, hl, fun z => absurd z e1, fun _ z => absurd z e2, fun _ _ => q⟩))
    · exact EvG.stk
  · unfold opCat
    split
    · rename_i xs ys e1 e2
      split
      · rename_i h
        obtain ⟨p, vs, rfl, h1, r1⟩ := rd_lst sb ra e1
        obtain ⟨p2, vs2, rfl, h2, r2⟩ := rd_lst sb rb e2
        have hl : vs.length + vs2.length ≤ sizeLine := by rw [r1.length, r2.length]; exact cap_le h
        exact ev_newL sb (r1.append r2) fun Q q => .inr (.inr (.inr ⟨p, p2, _, _, rfl, rfl, h1, h2, hl, q⟩))
      · exact EvG.stk
    · exact EvG.stk
theorem os_sub : OpS S E (rI0 fun i j => .int (i - j)) opSub := int2_ok fun G H i j sb => okI_now sb fun Q q => ⟨i, j, rfl, rfl, q⟩
def rMul : R2 := fun x y H Q => rI CMul (fun i j => .int (i * j)) x y H Q ∨ rI CMulW (fun i j => .int (i * j)) x y H Q ∨ rRep x y H Q
theorem or_mul {X : Cx} : OpR X (binaryOp .Mult) rMul := op_mul.or (op_mulW.or op_rep)
theorem small_iff {i : Int} (h : small i = true) : -(2 ^ 64) < i ∧ i < 2 ^ 64 := by
  unfold small at h
  rw [Bool.and_eq_true] at h
  exact ⟨of_decide_eq_true h.1, of_decide_eq_true h.2⟩
theorem os_mul : OpS S E rMul opMul := fun HA HB G H x y a b sb ra rb => by
  unfold opMul
  split
  · rename_i i j
    rw [DR.toInt ra, DR.toInt rb]
    unfold opMulI
    split
    · rename_i h
      rw [Bool.or_eq_true, Bool.or_eq_true, Bool.and_eq_true] at h
      rcases h with (h | h) | ⟨h1, h2⟩
      · exact okI_now sb fun Q q => .inl ⟨i, j, rfl, rfl, .inl (small_iff h), q⟩
      · exact okI_now sb fun Q q => .inl ⟨i, j, rfl, rfl, .inr (small_iff h), q⟩
      · exact okI_now sb fun Q q => .inr (.inl ⟨i, j, rfl, rfl, wide_mul (a := 500) (b := 500) (of_decide_eq_true h1) (of_decide_eq_true h2) (by decide) (by decide) (by decide), q⟩)
    · exact EvG.stk
  · rename_i k _
    rw [DR.toInt rb]
    cases e1 : a.rd with
    | stuck => exact EvG.stk
    | ex c => exact EvG.stk
    | ok dd =>
      cases dd <;> first | exact EvG.stk | skip
      rename_i xs
      show EvG S E (WR S) _ G H (if -(2 ^ 63) ≤ k ∧ k < 2 ^ 63 ∧ xs.length * k.toNat ≤ cap then .ok (.fr (List.replicate k.toNat xs).flatten) else .stuck)
      split
      · rename_i h
        obtain ⟨p, vs, rfl, h1, r1⟩ := rd_lst sb ra e1
        refine ev_newL sb (r1.rep k.toNat) fun Q q => .inr (.inr ⟨p, k, vs, rfl, rfl, h1, h.1, h.2.1, ?_, q⟩)
        rw [r1.length]
        exact cap_le h.2.2
      · exact EvG.stk
  · exact EvG.stk
theorem os_div : OpS S E (rI CDivW fun i j => .int (i / j)) opDiv := int2_ok fun G H i j sb => by
  split
  · rename_i h
    exact okI_now sb fun Q q => ⟨i, j, rfl, rfl, wide_div (b := 500) h.1 (of_decide_eq_true h.2) (by decide) (by decide), q⟩
  · exact EvG.stk
theorem os_mod : OpS S E (rI (fun _ j => 0 < j) fun i j => .int (i % j)) opMod := int2_ok fun G H i j sb => by
  split
  · rename_i h
    exact okI_now sb fun Q q => ⟨i, j, rfl, rfl, h, q⟩
  · exact EvG.stk
theorem os_pow : OpS S E (rI CPow fun i j => .int (i ^ j.toNat)) opPow := int2_ok fun G H i j sb => by
  split
  · rename_i h
    exact okI_now sb fun Q q => ⟨i, j, rfl, rfl, ⟨h.1, by omega, h.2.2⟩, q⟩
  · exact EvG.stk
theorem os_eq : OpS S E (rEqD S.K) (opEq false) := fun HA HB G H x y a b sb ra rb => by
  unfold opEq opEq2
  split
  · rename_i d e h1 h2
    split
    · rename_i h
      exact okB_now sb fun Q q => ⟨_, _, DR.dpU (ra.rd sb h1) h.1, DR.dpU (rb.rd sb h2) h.2, h.1, h.2, q⟩
    · exact EvG.stk
  · exact EvG.stk
theorem os_ne : OpS S E (rNeD S.K) (opEq true) := fun HA HB G H x y a b sb ra rb => by
  unfold opEq opEq2
  split
  · rename_i d e h1 h2
    split
    · rename_i h
      exact okB_now sb fun Q q => ⟨_, _, DR.dpU (ra.rd sb h1) h.1, DR.dpU (rb.rd sb h2) h.2, h.1, h.2, q⟩
    · exact EvG.stk
  · exact EvG.stk
def rLt (K : Frg) : R2 := fun x y H Q => rI0 (fun i j => .bl (decide (i < j))) x y H Q ∨ rLtT K x y H Q
def rLe (K : Frg) : R2 := fun x y H Q => rI0 (fun i j => .bl (decide (i ≤ j))) x y H Q ∨ rLeT K x y H Q
theorem ints_sq {G H : Hp} {x : V} {xs : List D} {ns : List Int} (sb : Sb G H) (r : DR S.K G x (.tuple xs)) (e : intsOf xs = some ns) : ∃ a, x = .ref a ∧ SqT S.K H a (ns.map V.int) := by
  obtain ⟨a, vs, rfl, h1, r1⟩ := DR.toTup r
  rw [intsOf_eq e] at r1
  rw [r1.ints] at h1
  exact ⟨a, rfl, sb.xt.sqT h1⟩
theorem os_lt : OpS S E (rLt S.K) opLt := fun HA HB G H x y a b sb ra rb => by
  unfold opLt
  split
  · rename_i i j
    rw [DR.toInt ra, DR.toInt rb]
    exact okB_now sb fun Q q => .inl ⟨i, j, rfl, rfl, q⟩
  · split
    · rename_i xs ys ns ms e1 e2
      obtain ⟨p, rfl, h1⟩ := ints_sq sb ra e1
      obtain ⟨p2, rfl, h2⟩ := ints_sq sb rb e2
      exact okB_now sb fun Q q => .inr ⟨p, p2, ns, ms, rfl, rfl, h1, h2, q⟩
    · exact EvG.stk
  · exact EvG.stk
theorem os_le : OpS S E (rLe S.K) opLe := fun HA HB G H x y a b sb ra rb => by
  unfold opLe
  split
  · rename_i i j
    rw [DR.toInt ra, DR.toInt rb]
    exact okB_now sb fun Q q => .inl ⟨i, j, rfl, rfl, q⟩
  · split
    · rename_i xs ys ns ms e1 e2
      obtain ⟨p, rfl, h1⟩ := ints_sq sb ra e1
      obtain ⟨p2, rfl, h2⟩ := ints_sq sb rb e2
      exact okB_now sb fun Q q => .inr ⟨p, p2, ns, ms, rfl, rfl, h1, h2, q⟩
    · exact EvG.stk
  · exact EvG.stk
theorem os_gt : OpS S E (rI0 fun i j => .bl (decide (j < i))) opGt := int2_ok fun G H i j sb => okB_now sb fun Q q => ⟨i, j, rfl, rfl, q⟩
theorem os_ge : OpS S E (rI0 fun i j => .bl (decide (j ≤ i))) opGe := int2_ok fun G H i j sb => okB_now sb fun Q q => ⟨i, j, rfl, rfl, q⟩
theorem DR.flat {G : Hp} {v : V} {d : D} (h : DR S.K G v d) (f : flatD d = true) : flatV v = true := by
  cases h <;> first | rfl | cases f
theorem eqV_eqv {G : Hp} {v w : V} {d e : D} (h : DR S.K G v d) (h2 : DR S.K G w e) (f : flatD d = true) (f2 : flatD e = true) : eqV v w = PyData.eqv d e := by
  cases h <;> cases h2 <;> first | rfl | (cases f; done) | (cases f2; done) | simp [eqV, PyData.eqv]
theorem DRs.flat {G : Hp} : ∀ {vs : List V} {ds : List D}, DRs S.K G vs ds → ds.all flatD = true → vs.all flatV = true
  | _, _, .nil, _ => rfl
  | _, _, .cons a r, h => by
    rw [List.all_cons, Bool.and_eq_true] at h ⊢
    exact ⟨a.flat h.1, DRs.flat r h.2⟩
theorem inV_any {G : Hp} {v : V} {d : D} (h : DR S.K G v d) (f : flatD d = true) : ∀ {vs : List V} {ds : List D}, DRs S.K G vs ds → ds.all flatD = true → inV v vs = ds.any fun z => PyData.eqv z d
  | _, _, .nil, _ => rfl
  | _, _, .cons a r, g => by
    rw [List.all_cons, Bool.and_eq_true] at g
    show (eqV _ v || inV v _) = (_ || _)
    rw [eqV_eqv a h g.1 f, inV_any h f r g.2]
def rIn2 (K : Frg) (neg : Bool) : R2 := fun x y H Q => rIn K neg x y H Q ∨ (∃ d ds, Dp K H x d ∧ Dp K H y (.list ds) ∧ SeqAt.shaped d = true ∧ SeqAt.shaped (.list ds) = true ∧ Q (.bl (if neg then !ds.any fun z => PyData.eqv z d else ds.any fun z => PyData.eqv z d)) H)
theorem os_in {neg : Bool} : OpS S E (rIn2 S.K neg) (opIn neg) := fun HA HB G H x y a b sb ra rb => by
  unfold opIn opIn2
  split
  · rename_i d ys h1 h2
    split
    · rename_i h
      exact okB_now sb fun Q q => .inr ⟨_, _, DR.dp _ _ (ra.rd sb h1) (SeqAt.canLay_of_shaped h.1), DR.dp _ _ (rb.rd sb h2) (SeqAt.canLay_of_shaped h.2), h.1, h.2, q⟩
    · exact EvG.stk
  · rename_i d ys h1 h2
    split
    · rename_i h
      have r1 := ra.rd sb h1
      have r2 := rb.rd sb h2
      obtain ⟨p, vs, rfl, hp, r⟩ := DR.toTup r2
      refine okB_now sb fun Q q => .inl ⟨p, vs, rfl, .inr hp, r1.flat h.1, r.flat h.2, ?_⟩
      rw [inV_any r1 h.1 r h.2]
      exact q
    · exact EvG.stk
  · exact EvG.stk
theorem us_isN {neg : Bool} : UnS S E (fun x H Q => Q (.bl (if neg then !decide (x = .non) else decide (x = .non))) H) (opIsN neg) := fun HA G H x a sb ra => by
  cases a with
  | un => exact EvG.stk
  | d y =>
    have e := DR.isNon ra
    cases y <;> exact okB_now sb fun Q q => (by show Q (V.bl (if neg = true then !decide (x = V.non) else decide (x = V.non))) H; rw [e]; cases neg <;> exact q)
  | own ys =>
    obtain ⟨p, vs, rfl, _⟩ := ra
    exact okB_now sb fun Q q => (by cases neg <;> exact q)
  | fr ys =>
    obtain ⟨p, vs, rfl, _⟩ := ra
    exact okB_now sb fun Q q => (by cases neg <;> exact q)
theorem bool2_ok {r : R2} {f : Bool → Bool → M L} (h : ∀ (G H : Hp) i j, Sb G H → EvG S E (WR S) (r (.bl i) (.bl j) H) G H (f i j)) : OpS S E r (bool2 f) := fun HA HB G H x y a b sb ra rb => by
  unfold bool2
  split
  · rename_i i j
    rw [DR.toBl ra, DR.toBl rb]
    exact h G H i j sb
  · exact EvG.stk
theorem os_isB {neg : Bool} : OpS S E (fun x y H Q => ∃ a b : Bool, x = .bl a ∧ y = .bl b ∧ Q (.bl (if neg then !decide (a = b) else decide (a = b))) H) (opIsB neg) := bool2_ok fun G H i j sb => okB_now sb fun Q q => ⟨i, j, rfl, rfl, q⟩
end
end PD
/-! items, slices, displays, calls -/
namespace PD
open PySem PySem.Spec PyProof.Rows L2
/-- the items of what is like a list -/
def L.items : L → Option (List D)
  | .d (.list xs) => some xs
  | .d (.tuple xs) => some xs
  | .d (.dict [(.none, .list xs)]) => some xs
  | .own xs => some xs
  | .fr xs => some xs
  | _ => none
def opIx : L → L → M L
  | .d (.str z), .d (.int i) => if z.length ≤ cap then (match atI z.cps.toList i with
    | some c => .ok (.d (.str ⟨#[c]⟩))
    | none => .stuck) else .stuck
  | a, .d (.int i) => match a.items with
    | some xs => (match atI xs i with
      | some x => .ok (.d x)
      | none => .stuck)
    | none => .stuck
  | _, _ => .stuck
def cutD (xs : List D) (lo hi : Option Int) : List D := (xs.drop (HT.sIx xs.length 0 lo)).take (HT.sIx xs.length xs.length hi - HT.sIx xs.length 0 lo)
def opSl : L → Option Int → Option Int → M L
  | .d (.tuple xs), lo, hi => .ok (.d (.tuple (cutD xs lo hi)))
  | a, lo, hi => match a.rd with
    | .ok (.list xs) => .ok (.fr (cutD xs lo hi))
    | _ => .stuck
def opRev (a : L) : M L := match a.rd with
  | .ok (.list xs) => .ok (.fr xs.reverse)
  | _ => .stuck
def oNone : OF := fun _ => .ok none
def oSome (f : EF) : OF := fun env => (f env).bind fun
  | .d (.int i) => .ok (some i)
  | _ => .stuck
def eSl (f : EF) (lo hi : OF) : EF := fun env => (f env).bind fun a => (lo env).bind fun l => (hi env).bind fun h => opSl a l h
/-- as frozen data -/
def fzL (l : L) : M L := l.fz.bind fun d => .ok (.d d)
def eFz (f : EF) : EF := fun env => (f env).bind fzL
def allD : List L → M (List D)
  | [] => .ok []
  | .d x :: r => (allD r).bind fun ds => .ok (x :: ds)
  | _ => .stuck
def eTup (g : AF) : EF := fun env => (g env).bind fun ls => (allD ls).bind fun ds => if ds.length ≤ cap then .ok (.d (.tuple ds)) else .stuck
def eLst (g : AF) : EF := fun env => (g env).bind fun ls => (allD ls).bind fun ds => if ds.length ≤ cap then .ok (.fr ds) else .stuck
def eCall (f : List D → M D) (g : AF) : EF := fun env => (g env).bind fun ls => (allD ls).bind fun ds => (f ds).bind fun d => .ok (.d d)
def eBi (op : List L → M L) (g : AF) : EF := fun env => (g env).bind op
section
variable {S : Sys} {k : Nat} {E : XK} {cc : CC} {sc : SC}
theorem items_sq {HA G H : Hp} {x : V} {a : L} {xs : List D} (sb : Sb G H) (ra : WR S HA G H x a) (e : a.items = some xs) : ∃ p vs, x = .ref p ∧ (SqL S.K H p vs ∨ SqT S.K H p vs) ∧ DRs S.K G vs xs := by
  unfold L.items at e
  split at e <;> cases e
  · obtain ⟨p, vs, rfl, h1, r1⟩ := DR.toLst ra
    exact ⟨p, vs, rfl, .inl (SqL.of (sb.xt.lst h1)), r1⟩
  · obtain ⟨p, vs, rfl, h1, r1⟩ := DR.toTup ra
    exact ⟨p, vs, rfl, .inr (sb.xt.sqT h1), r1⟩
  · have ra' : DR S.K G x (.dict [(.none, .list xs)]) := ra
    cases ra' with
    | scr h1 => exact ⟨_, _, rfl, .inl (sb.xt.sqL h1), DRs.map fun n _ => .int n⟩
  · obtain ⟨p, vs, rfl, h1, r1⟩ := ra
    exact ⟨p, vs, rfl, .inl (SqL.of h1), r1⟩
  · obtain ⟨p, vs, rfl, _, _, h1, r1⟩ := ra
    exact ⟨p, vs, rfl, .inl (SqL.of h1), r1⟩
theorem atI_rel {G : Hp} {vs : List V} {xs : List D} {i : Int} {x : D} (r : DRs S.K G vs xs) (e : atI xs i = some x) : ∃ v, atI vs i = some v ∧ DR S.K G v x := by
  unfold atI at e ⊢
  rw [r.length]
  cases h : ixN xs.length i with
  | none => rw [h] at e; cases e
  | some j =>
    rw [h] at e
    exact r.get e
theorem os_ix : OpS S E (rIx S.K) opIx := fun HA HB G H x y a b sb ra rb => by
  unfold opIx
  split
  · rename_i z i
    split
    · rename_i h
      split
      · rename_i c hc
        rw [DR.toStr ra, DR.toInt rb]
        exact EvG.now sb fun Q q => .inr (.inr ⟨z, i, c, rfl, rfl, cap_le h, hc, q _ (.str _)⟩)
      · exact EvG.stk
    · exact EvG.stk
  · rename_i i _
    rw [DR.toInt rb]
    split
    · rename_i xs e1
      split
      · rename_i x2 e2
        obtain ⟨p, vs, rfl, h1, r1⟩ := items_sq sb ra e1
        obtain ⟨v, hv, rv⟩ := atI_rel r1 e2
        rcases h1 with h1 | h1
        · exact EvG.now sb fun Q q => .inl ⟨p, vs, i, v, rfl, rfl, h1, hv, q v rv⟩
        · exact EvG.now sb fun Q q => .inr (.inl ⟨p, vs, i, v, rfl, rfl, h1, hv, q v rv⟩)
      · exact EvG.stk
    · exact EvG.stk
  · exact EvG.stk
theorem cut_rel {G : Hp} {vs : List V} {xs : List D} {lo hi : Option Int} (r : DRs S.K G vs xs) : DRs S.K G (cutV vs lo hi) (cutD xs lo hi) := by
  unfold cutV cutD
  rw [r.length]
  exact (r.drop _).take _
def rSl2 (K : Frg) : V → Option Int → Option Int → Hp → VK → Prop := fun x lo hi H Q => rSlA K x lo hi H Q ∨ rSlL K x lo hi H Q
theorem sl_2 {X : Cx} : SlR X (rSl2 X.K) := sl_tupA.or sl_list
theorem sl_ok {HA G H : Hp} {x : V} {a : L} {lo hi : Option Int} (sb : Sb G H) (ra : WR S HA G H x a) : EvG S E (WR S) (rSl2 S.K x lo hi H) G H (opSl a lo hi) := by
  unfold opSl
  split
  · rename_i xs
    obtain ⟨p, vs, rfl, h1, r1⟩ := DR.toTup ra
    by_cases hw : HT.sIx vs.length 0 lo = 0 ∧ HT.sIx vs.length vs.length hi = vs.length
    · have e : cutD xs lo hi = xs := by
        unfold cutD
        rw [← r1.length, hw.1, hw.2, List.drop_zero, Nat.sub_zero, r1.length]
        exact List.take_length
      rw [e]
      exact EvG.now sb fun Q q => .inl ⟨p, vs, rfl, sb.xt.sqT h1, fun _ => q _ (.tup h1 r1), fun z => absurd hw z⟩
    · exact ev_newT sb (cut_rel r1) fun Q q => .inl ⟨p, vs, rfl, sb.xt.sqT h1, fun z => absurd z hw, fun _ => q⟩
  · split
    · rename_i xs e1
      obtain ⟨p, vs, rfl, h1, r1⟩ := rd_lst sb ra e1
      exact ev_newL sb (cut_rel r1) fun Q q => .inr ⟨p, vs, rfl, SqL.of h1, q⟩
    · exact EvG.stk
theorem co_none : CO S k E cc sc none oNone := ⟨tNoPart, fun X c => po_none, fun H0 G H σ env a => EvG.now a.sb fun Q q => q _ rfl⟩
theorem co_some {e : Expr} {f : EF} (h : CE S k E cc sc e f) : CO S k E cc sc (some e) (oSome f) := by
  obtain ⟨t, p, v⟩ := h
  refine ⟨tPart t, fun X c => po_some (p X c), fun H0 G H σ env at0 => ?_⟩
  refine EvG.bind (tq := t σ H) (k := fun x H1 Q => ∃ i, x = .int i ∧ Q (some i) H1) (v H0 G H σ env at0) fun x l G2 H2 el x2 r2 => ⟨G2, x2, ?_⟩
  clear el
  split
  · rename_i i
    exact EvG.now x2.gh fun Q q => ⟨i, DR.toInt r2, q _ rfl⟩
  · exact EvG.stk
theorem ce_sl {e : Expr} {lo hi : Option Expr} {f : EF} {g h : OF} {p2 pos : Pos} (he : CE S k E cc sc e f) (hl : CO S k E cc sc lo g) (hh : CO S k E cc sc hi h) : CE S k E cc sc (.Subscript e (.Slice lo hi none p2) pos) (eSl f g h) := by
  obtain ⟨t, p, v⟩ := he
  obtain ⟨tl, pl, vl⟩ := hl
  obtain ⟨th, ph, vh⟩ := hh
  refine ⟨tSl (rSl2 S.K) t tl th, fun X c => by rw [← c.K]; exact pe_slice sl_2 (p X c) (pl X c) (ph X c), fun H0 G H σ env at0 => ?_⟩
  refine EvG.bind (tq := t σ H) (k := fun x H1 Q => tl σ H1 fun l H2 => th σ H2 fun u H3 => rSl2 S.K x l u H3 Q) (v H0 G H σ env at0) fun x a G2 H2 _ x2 r2 => ⟨G2, x2, ?_⟩
  refine EvG.bind (tq := tl σ H2) (k := fun l H2 Q => th σ H2 fun u H3 => rSl2 S.K x l u H3 Q) (vl H0 G2 H2 σ env (at0.up x2)) fun l l' G3 H3 _ x3 r3 => ⟨G3, x3, ?_⟩
  refine EvG.bind (tq := th σ H3) (k := fun u H3 Q => rSl2 S.K x l u H3 Q) (vh H0 G3 H3 σ env ((at0.up x2).up x3)) fun u u' G4 H4 _ x4 r4 => ⟨G4, x4, ?_⟩
  have e3 : l = l' := r3
  have e4 : u = u' := r4
  subst e3 e4
  exact (sl_ok x4.gh ((r2.up x3).up x4)).weak (bk_W S) fun p h => x2.dom p (x3.dom p (x4.dom p h))
theorem us_rev : UnS S E (fun x H Q => ∃ a xs, x = .ref a ∧ SqL S.K H a xs ∧ ∀ p, H p = none → Q (.ref p) (upd H p (.lst xs.reverse))) opRev := fun HA G H x a sb ra => by
  unfold opRev
  split
  · rename_i xs e1
    obtain ⟨p, vs, rfl, h1, r1⟩ := rd_lst sb ra e1
    exact ev_newL sb r1.reverse fun Q q => ⟨p, vs, rfl, SqL.of h1, q⟩
  · exact EvG.stk
theorem ce_fz {e : Expr} {f : EF} (h : CE S k E cc sc e f) : CE S k E cc sc e (eFz f) := by
  obtain ⟨t, p, v⟩ := h
  refine ⟨t, p, fun H0 G H σ env at0 => EvG.map (v H0 G H σ env at0) (fun x l G2 H2 d _ ed x2 r2 => ?_) fun b c z => ?_⟩
  · unfold fzL at ed
    cases e1 : l.fz with
    | stuck => rw [e1] at ed; cases ed
    | ex c => rw [e1] at ed; cases ed
    | ok y =>
      rw [e1] at ed
      cases ed
      exact r2.fz x2 e1
  · unfold fzL at z
    cases b <;> cases z
theorem allD_ok {HA G H : Hp} : ∀ {vs : List V} {ls : List L} {ds : List D}, WRs S HA G H vs ls → allD ls = .ok ds → DRs S.K G vs ds
  | _, _, ds, .nil, e => by
    cases e
    exact .nil
  | _, _, ds, .cons (l := l) (ls := ls) a r, e => by
    cases l <;> first | (cases e; done) | skip
    rename_i x
    have e' : (allD ls).bind (fun ds => .ok (x :: ds)) = .ok ds := e
    cases e1 : allD ls with
    | stuck => rw [e1] at e'; cases e'
    | ex c => rw [e1] at e'; cases e'
    | ok es =>
      rw [e1] at e'
      cases e'
      exact .cons a (allD_ok r e1)
theorem allD_ex {c : Str} : ∀ ls : List L, allD ls ≠ .ex c
  | [], z => by cases z
  | l :: ls, z => by
    cases l <;> first | (cases z; done) | skip
    rename_i x
    have e' : (allD ls).bind (fun ds => .ok (x :: ds)) = .ex c := z
    cases e1 : allD ls with
    | stuck => rw [e1] at e'; cases e'
    | ex c2 => exact allD_ex ls e1
    | ok es => rw [e1] at e'; cases e'
theorem ce_tup {es : List Expr} {g : AF} {n : Nat} {pos : Pos} (h : CA S k E cc sc es g) : CE S k E cc sc (.Tuple es n pos) (eTup g) := by
  obtain ⟨t, p, v⟩ := h
  refine ⟨tTup t, fun X c => pe_tup (p X c), fun H0 G H σ env at0 => ?_⟩
  refine EvG.bind (tq := t σ H) (k := fun xs H1 (Q : VK) => xs.length ≤ sizeLine ∧ ∀ p, H1 p = none → Q (V.ref p) (upd H1 p (.tup xs))) (v H0 G H σ env at0) fun x l G2 H2 _ x2 r2 => ⟨G2, x2, ?_⟩
  cases e1 : allD l with
  | stuck => exact EvG.stk
  | ex c => exact absurd e1 (allD_ex l)
  | ok ds =>
    have r := allD_ok r2 e1
    show EvG S E (fun _ => WR S H) _ G2 H2 (if ds.length ≤ cap then .ok (.d (.tuple ds)) else .stuck)
    split
    · rename_i h
      exact (ev_newT x2.gh r fun Q q => ⟨by rw [r.length]; exact cap_le h, q⟩).weak (bk_W S) x2.dom
    · exact EvG.stk
theorem ce_lst {es : List Expr} {g : AF} {pos : Pos} (h : CA S k E cc sc es g) : CE S k E cc sc (.List es pos) (eLst g) := by
  obtain ⟨t, p, v⟩ := h
  refine ⟨tLst t, fun X c => pe_lst (p X c), fun H0 G H σ env at0 => ?_⟩
  refine EvG.bind (tq := t σ H) (k := fun xs H1 (Q : VK) => xs.length ≤ sizeLine ∧ ∀ p, H1 p = none → Q (V.ref p) (upd H1 p (.lst xs))) (v H0 G H σ env at0) fun x l G2 H2 _ x2 r2 => ⟨G2, x2, ?_⟩
  cases e1 : allD l with
  | stuck => exact EvG.stk
  | ex c => exact absurd e1 (allD_ex l)
  | ok ds =>
    have r := allD_ok r2 e1
    show EvG S E (fun _ => WR S H) _ G2 H2 (if ds.length ≤ cap then .ok (.fr ds) else .stuck)
    split
    · rename_i h
      exact (ev_newL x2.gh r fun Q q => ⟨by rw [r.length]; exact cap_le h, q⟩).weak (bk_W S) x2.dom
    · exact EvG.stk
/-- a def called on data -/
theorem sp_ok {n : Nat} {f : List D → M D} {G H : Hp} {vs : List V} {ds : List D} (sb : Sb G H) (tb : LamX.Tabs S.T H) (r : DRs S.K G vs ds) (hn : ds.length = n) :
    EvG S E (WR S) (fun Q => spD S n f vs H Q E) G H ((f ds).bind fun d => .ok (.d d)) := by
  have hl : vs.length = n := r.length.trans hn
  cases e : f ds with
  | stuck => exact EvG.stk
  | ex c => exact fun Q q => ⟨G, ds, hl, sb, tb, r, by rw [e]; exact fun G' H' x => q G' H' x⟩
  | ok d => exact fun Q q => ⟨G, ds, hl, sb, tb, r, by rw [e]; exact fun v G' H' x rv => q v G' H' x rv⟩
theorem back_any {pos : Pos} {l : List (Bool × Sem Value)} : (backTo pos l).any (·.1) = l.any (·.1) := by
  unfold backTo
  rw [List.any_map]
  rfl
theorem star_any {env : Env} : ∀ {es : List Expr}, es.all notStar = true → (starEach es env).any (·.1) = false
  | [], _ => rfl
  | e :: es, h => by
    rw [List.all_cons, Bool.and_eq_true] at h
    rw [star_cons h.1, List.any_cons, star_any h.2]
    rfl
def glB (sc : SC) (x : Str) : Bool := decide (sc.sc.names.lookup x = some .globalImplicit) && (!(x == ("__debug__" : Str)) && !(x == ("__name__" : Str)))
theorem glB_ok {x : Str} {X : Cx} (c : CtxOk S k E cc sc X) (h : glB sc x = true) : Gl X x ∧ (x == ("__debug__" : Str)) = false ∧ x ≠ "__name__" := by
  unfold glB at h
  rw [Bool.and_eq_true, Bool.and_eq_true, Bool.not_eq_true', Bool.not_eq_true'] at h
  refine ⟨?_, h.2.1, fun z => ?_⟩
  · have h1 := of_decide_eq_true h.1
    show X.env.scope.names.lookup x = _
    rw [c.scp]
    exact h1
  · have h2 := h.2.2
    rw [z] at h2
    exact absurd h2 (by decide)
theorem ce_call {x : Str} {es : List Expr} {e : Expr} {g : AF} {fe : FnE} {p pos : Pos} (C : CcOk S k cc) (hf : fe ∈ cc.fns) (hx : fe.x = x) (hn : (e :: es).length = fe.n) (hs : (e :: es).all notStar = true) (hg : glB sc x = true) (h : CA S k E cc sc (e :: es) g)
    (hlen : ∀ env ls, g env = .ok ls → ls.length = (e :: es).length) : CE S k E cc sc (.Call (.Name x p) (e :: es) [] pos) (eCall fe.f g) := by
  obtain ⟨t, pa, v⟩ := h
  obtain ⟨fa, fd, ps, hm, hps, hb, hk, F⟩ := (C.fns fe hf).ex
  refine ⟨tCall (spD S fe.n fe.f) [] E t, fun X c => ?_, fun H0 G H σ env at0 => ?_⟩
  · obtain ⟨g1, g2, _⟩ := glB_ok c hg
    obtain ⟨P, w, K, mg, base, A, N, s0, HH, env, outer, stack, ex, fn, calm, pn, xe⟩ := X
    obtain ⟨rfl, rfl, rfl, rfl, rfl, hN, nd, hc, hsc, hfn, room, pass⟩ := c
    rw [List.all_cons, Bool.and_eq_true] at hs
    exact pe_call F room g1 (by rw [← hx]; exact hm) hk hb .nil pass (pa _ ⟨rfl, rfl, rfl, rfl, rfl, hN, nd, hc, hsc, hfn, room, pass⟩) g2 (star_cons hs.1) (by rw [back_any]; exact star_any hs.2)
  · refine EvG.bind (tq := t σ H) (k := fun vs H1 Q => spD S fe.n fe.f (vs ++ []) H1 Q E) (v H0 G H σ env at0) fun x l G2 H2 el x2 r2 => ⟨G2, x2, ?_⟩
    cases e1 : allD l with
    | stuck => exact EvG.stk
    | ex c => exact absurd e1 (allD_ex l)
    | ok ds =>
      have r := allD_ok r2 e1
      have hl : ds.length = fe.n := by
        have h1 : l.length = (e :: es).length := hlen env l el
        have h2 : x.length = l.length := by
          clear e1 r el h1
          induction r2 with
          | nil => rfl
          | cons _ _ ih => simp [ih]
        rw [← r.length, h2, h1, hn]
      rw [List.append_nil]
      exact (sp_ok x2.gh (x2.t at0.tb) r hl).weak (bk_W S) x2.dom
/-! ### built-in calls by values -/
def CallS (S : Sys) (E : XK) (r : List V → Hp → VK → Prop) (op : List L → M L) : Prop := ∀ (HA G H : Hp) vs ls, Sb G H → WRs S HA G H vs ls → EvG S E (WR S) (r vs H) G H (op ls)
theorem ce_bi {r : List V → Hp → VK → Prop} {op : List L → M L} {es : List Expr} {e : Expr} {g : AF} (he : ∀ X, CtxOk S k E cc sc X → ∀ t, PA X es t → PE X e (tCB r t)) (ho : CallS S E r op) (h : CA S k E cc sc es g) : CE S k E cc sc e (eBi op g) := by
  obtain ⟨t, pa, v⟩ := h
  refine ⟨tCB r t, fun X c => he X c t (pa X c), fun H0 G H σ env at0 => ?_⟩
  exact EvG.bind (tq := t σ H) (k := fun vs H1 Q => r vs H1 Q) (v H0 G H σ env at0) fun x l G2 H2 _ x2 r2 => ⟨G2, x2, (ho _ G2 H2 x l x2.gh r2).weak (bk_W S) x2.dom⟩
def bLen : List L → M L
  | [.d (.str z)] => if z.length ≤ cap then okI z.length else .stuck
  | [a] => match a.items with
    | some xs => okI xs.length
    | none => .stuck
  | _ => .stuck
def bInt : List L → M L
  | [.d (.int i)] => okI i
  | [.d (.bool b)] => okI (if b then 1 else 0)
  | _ => .stuck
def bList : List L → M L
  | [.d (.tuple xs)] => .ok (.fr xs)
  | [a] => match a.rd with
    | .ok (.list xs) => .ok (.fr xs)
    | _ => .stuck
  | _ => .stuck
def bTuple : List L → M L
  | [.d (.tuple xs)] => .ok (.d (.tuple xs))
  | [a] => match a.rd with
    | .ok (.list xs) => .ok (.d (.tuple xs))
    | _ => .stuck
  | _ => .stuck
def rdInts (a : L) : Option (List Int) := match a.rd with
  | .ok (.list xs) => intsOf xs
  | _ => none
def rdBools (a : L) : Option (List Bool) := match a.rd with
  | .ok (.list xs) => boolsOf xs
  | _ => none
def bSum : List L → M L
  | [a] => match rdInts a with
    | some ns => okI ns.sum
    | none => .stuck
  | _ => .stuck
def bAny : List L → M L
  | [a] => match rdBools a with
    | some bs => okB (bs.any id)
    | none => .stuck
  | _ => .stuck
def bAll : List L → M L
  | [a] => match rdBools a with
    | some bs => okB (bs.all id)
    | none => .stuck
  | _ => .stuck
def maxI : List Int → Option Int
  | [] => none
  | [i] => some i
  | i :: r => (maxI r).map fun m => if m > i then m else i
def minI : List Int → Option Int
  | [] => none
  | [i] => some i
  | i :: r => (minI r).map fun m => if m < i then m else i
def oI : Option Int → M L
  | some i => okI i
  | none => .stuck
def bMax : List L → M L
  | [.d (.int i), .d (.int j)] => okI (if j > i then j else i)
  | [a] => oI ((rdInts a).bind maxI)
  | _ => .stuck
def bMin : List L → M L
  | [.d (.int i), .d (.int j)] => okI (if j < i then j else i)
  | [a] => oI ((rdInts a).bind minI)
  | _ => .stuck
def sortI (ns : List Int) : List Int := ns.mergeSort (fun a b => decide (a ≤ b))
def bSorted : List L → M L
  | [a] => match rdInts a with
    | some ns => .ok (.fr ((sortI ns).map .int))
    | none => .stuck
  | _ => .stuck
def bAbs : List L → M L
  | [.d (.int i)] => okI (if i < 0 then -i else i)
  | _ => .stuck
theorem rdInts_ok {HA G H : Hp} {x : V} {a : L} {ns : List Int} (sb : Sb G H) (ra : WR S HA G H x a) (e : rdInts a = some ns) : ∃ p, x = .ref p ∧ H p = some (.lst (ns.map V.int)) := by
  unfold rdInts at e
  split at e
  · rename_i xs e1
    obtain ⟨p, vs, rfl, h1, r1⟩ := rd_lst sb ra e1
    rw [intsOf_eq e] at r1
    rw [r1.ints] at h1
    exact ⟨p, rfl, h1⟩
  · cases e
theorem rdBools_ok {HA G H : Hp} {x : V} {a : L} {ns : List Bool} (sb : Sb G H) (ra : WR S HA G H x a) (e : rdBools a = some ns) : ∃ p, x = .ref p ∧ H p = some (.lst (ns.map V.bl)) := by
  unfold rdBools at e
  split at e
  · rename_i xs e1
    obtain ⟨p, vs, rfl, h1, r1⟩ := rd_lst sb ra e1
    rw [boolsOf_eq e] at r1
    rw [r1.bools] at h1
    exact ⟨p, rfl, h1⟩
  · cases e
theorem wrs1 {HA G H : Hp} {vs : List V} {a : L} (h : WRs S HA G H vs [a]) : ∃ x, vs = [x] ∧ WR S HA G H x a := by
  cases h with
  | cons h1 h2 =>
    cases h2
    exact ⟨_, rfl, h1⟩
theorem wrs2 {HA G H : Hp} {vs : List V} {a b : L} (h : WRs S HA G H vs [a, b]) : ∃ x y, vs = [x, y] ∧ WR S HA G H x a ∧ WR S HA G H y b := by
  cases h with
  | cons h1 h2 =>
    cases h2 with
    | cons h2 h3 =>
      cases h3
      exact ⟨_, _, rfl, h1, h2⟩
theorem cs_len : CallS S E (fun xs H Q => ∃ x n, xs = [x] ∧ LenV S.K x H n ∧ Q (.int n) H) bLen := fun HA G H vs ls sb r => by
  unfold bLen
  split
  · rename_i z
    split
    · rename_i h
      obtain ⟨x, rfl, r1⟩ := wrs1 r
      rw [DR.toStr r1]
      exact okI_now sb fun Q q => ⟨_, _, rfl, ⟨cap_le h, rfl⟩, q⟩
    · exact EvG.stk
  · rename_i a _
    split
    · rename_i xs e1
      obtain ⟨x, rfl, r1⟩ := wrs1 r
      obtain ⟨p, us, rfl, h1, r2⟩ := items_sq sb r1 e1
      rw [← r2.length]
      rcases h1 with h1 | h1
      · exact okI_now sb fun Q q => ⟨_, _, rfl, .inl ⟨us, h1, rfl⟩, q⟩
      · exact okI_now sb fun Q q => ⟨_, _, rfl, .inr ⟨us, h1, rfl⟩, q⟩
    · exact EvG.stk
  · exact EvG.stk
theorem cs_int : CallS S E (fun xs H Q => (∃ i, xs = [.int i] ∧ Q (.int i) H) ∨ ∃ k, xs = [.bl k] ∧ Q (.int (if k then 1 else 0)) H) bInt := fun HA G H vs ls sb r => by
  unfold bInt
  split
  · rename_i i
    obtain ⟨x, rfl, r1⟩ := wrs1 r
    rw [DR.toInt r1]
    exact okI_now sb fun Q q => .inl ⟨i, rfl, q⟩
  · rename_i b
    obtain ⟨x, rfl, r1⟩ := wrs1 r
    rw [DR.toBl r1]
    exact okI_now sb fun Q q => .inr ⟨b, rfl, q⟩
  · exact EvG.stk
theorem cs_list : CallS S E (fun xs H Q => ∃ p ys, xs = [.ref p] ∧ (SqL S.K H p ys ∨ SqT S.K H p ys) ∧ ∀ l, H l = none → Q (.ref l) (upd H l (.lst ys))) bList := fun HA G H vs ls sb r => by
  unfold bList
  split
  · rename_i xs
    obtain ⟨x, rfl, r1⟩ := wrs1 r
    obtain ⟨p, us, rfl, h1, r2⟩ := DR.toTup r1
    exact ev_newL sb r2 fun Q q => ⟨p, us, rfl, .inr (sb.xt.sqT h1), q⟩
  · rename_i a _
    split
    · rename_i xs e1
      obtain ⟨x, rfl, r1⟩ := wrs1 r
      obtain ⟨p, us, rfl, h1, r2⟩ := rd_lst sb r1 e1
      exact ev_newL sb r2 fun Q q => ⟨p, us, rfl, .inl (SqL.of h1), q⟩
    · exact EvG.stk
  · exact EvG.stk
theorem cs_tuple : CallS S E (fun xs H Q => ∃ p ys, xs = [.ref p] ∧ ((SqL S.K H p ys ∧ ∀ l, H l = none → Q (.ref l) (upd H l (.tup ys))) ∨ (SqT S.K H p ys ∧ Q (.ref p) H))) bTuple := fun HA G H vs ls sb r => by
  unfold bTuple
  split
  · rename_i xs
    obtain ⟨x, rfl, r1⟩ := wrs1 r
    obtain ⟨p, us, rfl, h1, r2⟩ := DR.toTup r1
    exact EvG.now sb fun Q q => ⟨p, us, rfl, .inr ⟨sb.xt.sqT h1, q _ (.tup h1 r2)⟩⟩
  · rename_i a _
    split
    · rename_i xs e1
      obtain ⟨x, rfl, r1⟩ := wrs1 r
      obtain ⟨p, us, rfl, h1, r2⟩ := rd_lst sb r1 e1
      exact ev_newT sb r2 fun Q q => ⟨p, us, rfl, .inl ⟨SqL.of h1, q⟩⟩
    · exact EvG.stk
  · exact EvG.stk
theorem cs_sum : CallS S E (rSum S.K) bSum := fun HA G H vs ls sb r => by
  unfold bSum
  split
  · rename_i a
    split
    · rename_i ns e1
      obtain ⟨x, rfl, r1⟩ := wrs1 r
      obtain ⟨p, rfl, h1⟩ := rdInts_ok sb r1 e1
      exact okI_now sb fun Q q => ⟨p, ns, rfl, SqL.of h1, q⟩
    · exact EvG.stk
  · exact EvG.stk
theorem cs_any : CallS S E (rAny S.K) bAny := fun HA G H vs ls sb r => by
  unfold bAny
  split
  · rename_i a
    split
    · rename_i ns e1
      obtain ⟨x, rfl, r1⟩ := wrs1 r
      obtain ⟨p, rfl, h1⟩ := rdBools_ok sb r1 e1
      exact okB_now sb fun Q q => ⟨p, ns, rfl, SqL.of h1, q⟩
    · exact EvG.stk
  · exact EvG.stk
theorem cs_all : CallS S E (rAll S.K) bAll := fun HA G H vs ls sb r => by
  unfold bAll
  split
  · rename_i a
    split
    · rename_i ns e1
      obtain ⟨x, rfl, r1⟩ := wrs1 r
      obtain ⟨p, rfl, h1⟩ := rdBools_ok sb r1 e1
      exact okB_now sb fun Q q => ⟨p, ns, rfl, SqL.of h1, q⟩
    · exact EvG.stk
  · exact EvG.stk
theorem maxI_ok : ∀ {ns : List Int} {m : Int}, maxI ns = some m → m ∈ ns ∧ ∀ y ∈ ns, y ≤ m
  | [], m, h => by cases h
  | [i], m, h => by cases h; simp
  | i :: j :: r, m, h => by
    have h' : (maxI (j :: r)).map (fun m => if m > i then m else i) = some m := h
    cases e : maxI (j :: r) with
    | none => rw [e] at h'; cases h'
    | some n =>
      rw [e] at h'
      obtain ⟨a, b⟩ := maxI_ok e
      have h2 : (if n > i then n else i) = m := Option.some.inj h'
      split at h2
      · subst h2
        exact ⟨by simp only [List.mem_cons] at a ⊢; exact .inr a, fun y hy => by
          rcases List.mem_cons.mp hy with z | z
          · omega
          · exact b y z⟩
      · subst h2
        exact ⟨by simp, fun y hy => by
          rcases List.mem_cons.mp hy with z | z
          · omega
          · have := b y z; omega⟩
theorem minI_ok : ∀ {ns : List Int} {m : Int}, minI ns = some m → m ∈ ns ∧ ∀ y ∈ ns, m ≤ y
  | [], m, h => by cases h
  | [i], m, h => by cases h; simp
  | i :: j :: r, m, h => by
    have h' : (minI (j :: r)).map (fun m => if m < i then m else i) = some m := h
    cases e : minI (j :: r) with
    | none => rw [e] at h'; cases h'
    | some n =>
      rw [e] at h'
      obtain ⟨a, b⟩ := minI_ok e
      have h2 : (if n < i then n else i) = m := Option.some.inj h'
      split at h2
      · subst h2
        exact ⟨by simp only [List.mem_cons] at a ⊢; exact .inr a, fun y hy => by
          rcases List.mem_cons.mp hy with z | z
          · omega
          · exact b y z⟩
      · subst h2
        exact ⟨by simp, fun y hy => by
          rcases List.mem_cons.mp hy with z | z
          · omega
          · have := b y z; omega⟩
def rMax2 (K : Frg) : List V → Hp → VK → Prop := fun xs H Q => (∃ i j, xs = [.int i, .int j] ∧ Q (.int (if j > i then j else i)) H) ∨ rMax K xs H Q
def rMin2 (K : Frg) : List V → Hp → VK → Prop := fun xs H Q => (∃ i j, xs = [.int i, .int j] ∧ Q (.int (if j < i then j else i)) H) ∨ rMin K xs H Q
theorem cs_max : CallS S E (rMax2 S.K) bMax := fun HA G H vs ls sb r => by
  unfold bMax
  split
  · rename_i i j
    obtain ⟨x, y, rfl, r1, r2⟩ := wrs2 r
    rw [DR.toInt r1, DR.toInt r2]
    exact okI_now sb fun Q q => .inl ⟨i, j, rfl, q⟩
  · rename_i a
    cases e : rdInts a with
    | none => exact EvG.stk
    | some ns =>
      show EvG S E (WR S) _ G H (oI (maxI ns))
      cases e2 : maxI ns with
      | none => exact EvG.stk
      | some m =>
        obtain ⟨x, rfl, r1⟩ := wrs1 r
        obtain ⟨p, rfl, h1⟩ := rdInts_ok sb r1 e
        obtain ⟨a1, b1⟩ := maxI_ok e2
        refine okI_now sb fun Q q => .inr ⟨p, ns, rfl, SqL.of h1, ?_, fun m' h3 h4 => ?_⟩
        · exact List.length_pos_of_mem a1
        · have h5 := h4 m a1
          have h6 := b1 m' h3
          rw [show m' = m by omega]
          exact q
  · exact EvG.stk
theorem cs_min : CallS S E (rMin2 S.K) bMin := fun HA G H vs ls sb r => by
  unfold bMin
  split
  · rename_i i j
    obtain ⟨x, y, rfl, r1, r2⟩ := wrs2 r
    rw [DR.toInt r1, DR.toInt r2]
    exact okI_now sb fun Q q => .inl ⟨i, j, rfl, q⟩
  · rename_i a
    cases e : rdInts a with
    | none => exact EvG.stk
    | some ns =>
      show EvG S E (WR S) _ G H (oI (minI ns))
      cases e2 : minI ns with
      | none => exact EvG.stk
      | some m =>
        obtain ⟨x, rfl, r1⟩ := wrs1 r
        obtain ⟨p, rfl, h1⟩ := rdInts_ok sb r1 e
        obtain ⟨a1, b1⟩ := minI_ok e2
        refine okI_now sb fun Q q => .inr ⟨p, ns, rfl, SqL.of h1, ?_, fun m' h3 h4 => ?_⟩
        · exact List.length_pos_of_mem a1
        · have h5 := h4 m a1
          have h6 := b1 m' h3
          rw [show m' = m by omega]
          exact q
  · exact EvG.stk
theorem sorted_unique {a b : List Int} (p : a.Perm b) (ha : a.Pairwise (· ≤ ·)) (hb : b.Pairwise (· ≤ ·)) : a = b := by
  induction a generalizing b with
  | nil => exact (List.Perm.nil_eq p)
  | cons x a ih =>
    cases b with
    | nil => exact absurd p.length_eq (by simp)
    | cons y b =>
      have hx : x ∈ y :: b := p.mem_iff.mp (by simp)
      have hy : y ∈ x :: a := p.mem_iff.mpr (by simp)
      rw [List.pairwise_cons] at ha hb
      have e : x = y := by
        rcases List.mem_cons.mp hx with h1 | h1
        · exact h1
        · rcases List.mem_cons.mp hy with h2 | h2
          · exact h2.symm
          · have := hb.1 x h1
            have := ha.1 y h2
            omega
      subst e
      rw [ih (List.Perm.cons_inv p) ha.2 hb.2]
theorem sortI_perm (ns : List Int) : (sortI ns).Perm ns := List.mergeSort_perm _ _
theorem sortI_le (ns : List Int) : (sortI ns).Pairwise (· ≤ ·) := by
  have h := List.pairwise_mergeSort (le := fun a b : Int => decide (a ≤ b)) (fun a b c h1 h2 => by
    have h1 := of_decide_eq_true h1
    have h2 := of_decide_eq_true h2
    exact decide_eq_true (by omega)) (fun a b => by
    by_cases h : a ≤ b
    · rw [decide_eq_true h]; rfl
    · rw [decide_eq_true (show b ≤ a by omega), Bool.or_true]) ns
  exact h.imp fun {a b} h => of_decide_eq_true h
theorem cs_sorted : CallS S E (rSortedI S.K) bSorted := fun HA G H vs ls sb r => by
  unfold bSorted
  split
  · rename_i a
    split
    · rename_i ns e1
      obtain ⟨x, rfl, r1⟩ := wrs1 r
      obtain ⟨p, rfl, h1⟩ := rdInts_ok sb r1 e1
      refine ev_newL (vs := (sortI ns).map V.int) sb (DRs.map fun n _ => .int n) fun Q q => ⟨p, ns, rfl, SqL.of h1, fun ns' p2 h2 h3 hp => ?_⟩
      rw [sorted_unique (h2.trans (sortI_perm ns).symm) h3 (sortI_le ns)]
      exact q p2 hp
    · exact EvG.stk
  · exact EvG.stk
theorem cs_abs : CallS S E (fun xs H Q => ∃ i, xs = [.int i] ∧ Q (.int (if i < 0 then -i else i)) H) bAbs := fun HA G H vs ls sb r => by
  unfold bAbs
  split
  · rename_i i
    obtain ⟨x, rfl, r1⟩ := wrs1 r
    rw [DR.toInt r1]
    exact okI_now sb fun Q q => ⟨i, rfl, q⟩
  · exact EvG.stk
end
end PD
/-! enumerate of a tuple -/
namespace PySem
open Sem (wp)
open Builtin Builtin.Str
theorem pd_meets_enum {v : Value} {o : Obj} {H : Heap → Prop} (B : Begins v o H) :
    Meets (Builtin.«enumerate.__new__» ⟨[.type "enumerate", v], []⟩) (fun _ R s => H s.heap ∧
      R (.ok (.ret (.ref (s.heap.push o).objs.size))) { s with heap := (s.heap.push o).push { cls := .type "enumerate", data := .fields #[.none, .bool false, .ref s.heap.objs.size, rawInt 0, .none, .none] } }) :=
  .of_wp fun prog w A R s h => by
    obtain ⟨hp, g, d, tk, os⟩ := s; obtain ⟨h1, h⟩ := h
    have hsub := sub_enumerate
    have q1 : ∀ {A' : Around} {E : Value → Shared → Prop} {Q : Value → Shared → Prop}, Q (.ref hp.objs.size) ⟨hp.push o, g, d, tk, os⟩ → wpAny (model prog w) A' (pyIter v) Q E ⟨hp, g, d, tk, os⟩ :=
      fun q => B.iter prog w _ _ ⟨hp, g, d, tk, os⟩ _ h1 q
    wp_walk using q1
    refine wpAny_stack_any fun st => wpAny_pure ?_
    split
    · rename_i c _ _ _ _ _
      cases (c == Value.type "enumerate")
      · wp_walk using q1
        exact ⟨_, rfl, h⟩
      · wp_walk using q1
        exact ⟨_, rfl, h⟩
    · wp_walk using q1
      exact ⟨_, rfl, h⟩
section
variable {prog : Program} {w : World} {A : Around} {E : Value → Shared → Prop} {s : Shared}
theorem pd_enum_begins {a : Addr} {items : Array Value} {Q : Value → Shared → Prop} (h1 : s.heap.IsTuple a items)
    (h : ∀ h', IsEnum h' (s.heap.objs.size + 1) s.heap.objs.size 0 .none → h'.get? s.heap.objs.size = some { cls := .type "tuple_iterator", data := .fields #[.ref a, .int 0 0] } → h'.objs.size = s.heap.objs.size + 2 →
      (∀ b o, s.heap.get? b = some o → h'.get? b = some o) → Q (.ref (s.heap.objs.size + 1)) { s with heap := h' }) :
    wpAny (model prog w) A (call (.type "enumerate") [.ref a]) Q E s := by
  refine callType_new F.called_enumerate (by decide) (F.typeCall_enumerate_1 _) (F.newCall_enumerate_1 _) (fun obj => F.args_object_init_2 obj _) F.entry_enumerate_new
    (pd_meets_enum (begins_tuple a items)) ⟨h1, ?_⟩
  have hz : (s.heap.push { cls := .type "tuple_iterator", data := .fields #[.ref a, .int 0 0] }).objs.size = s.heap.objs.size + 1 := Heap.size_push ..
  show _ ∧ _
  rw [hz]
  have he : IsEnum ((s.heap.push { cls := .type "tuple_iterator", data := .fields #[.ref a, .int 0 0] }).push { cls := .type "enumerate", data := .fields #[.none, .bool false, .ref s.heap.objs.size, rawInt 0, .none, .none] }) (s.heap.objs.size + 1) s.heap.objs.size 0 .none := by
    have := Heap.get?_push_size (s.heap.push { cls := .type "tuple_iterator", data := .fields #[.ref a, .int 0 0] }) (o := { cls := .type "enumerate", data := .fields #[.none, .bool false, .ref s.heap.objs.size, rawInt 0, .none, .none] }) rfl
    rw [hz] at this; exact this
  refine ⟨⟨_, he, rfl⟩, h _ he (Heap.get?_push_of_some _ (Heap.get?_push_size _ rfl)) (by rw [Heap.size_push, hz]) fun b o x => Heap.get?_push_of_some _ (Heap.get?_push_of_some _ x)⟩
end
end PySem
namespace PD
open PySem PySem.Spec PyProof.Rows L2
def IteT (K : PySem.W.Frag) (a : Addr) : It :=
  ⟨fun i H => ∃ (xs : List V) (x : V), SqT K H a xs ∧ xs[i]? = some x, fun i H v H' => ∃ T x, v = .ref T ∧ H T = none ∧ H' = upd H T (.tup [.int (i : Nat), x]) ∧ ∀ xs, SqT K H a xs → xs[i]? = some x, fun i H => ∃ xs : List V, SqT K H a xs ∧ xs.length ≤ i⟩
theorem isTup_isTuple {h : Heap} {a : Addr} {items : Array Value} (p : IsTup h a items) : h.IsTuple a items := p
theorem turn_enumT {P : Program} {w : World} {K : PySem.W.Frag} {elts : List Expr} {kk : Nat} {tpos : Pos} (a e it : Addr) :
    Turn P w K (.Tuple elts kk tpos) (IteT K a) [e, it] e (fun i h => (∃ old, IsEnum h e it ((i : Nat) : Int) old) ∧ h.IsTupleIter it a i ∧ e ≠ it ∧ a ≠ it) where
  mem := by simp
  obj := fun i h st b hb => by
    obtain ⟨⟨old, he⟩, ⟨o, ho, hc, hd⟩, _⟩ := st
    have e' : b = e ∨ b = it := by simpa using hb
    rcases e' with z | z
    · rw [z]; exact ⟨_, he, fun v q => nomatch q⟩
    · rw [z]; exact ⟨o, ho, fun v q => by rw [hd] at q; cases q⟩
  keep := fun i h h' st k => let ⟨⟨old, he⟩, hi, hne⟩ := st; ⟨⟨old, k e (by simp) _ he⟩, hi.at fun o q => k it (by simp) o q, hne⟩
  item := by
    intro X hP hw hK hc i pins s σ H E I hf st hg
    subst hP hw hK
    obtain ⟨⟨old, he⟩, hit, hne, hna⟩ := st
    obtain ⟨xs, x, hq, hx⟩ := hg
    obtain ⟨its, rv, p, hz⟩ := I.tuple hq
    obtain ⟨u, hu, ru⟩ := rv.get hx
    have hel : e < s.heap.objs.size := Heap.lt_size he
    have hil : it < s.heap.objs.size := by obtain ⟨_, q, _⟩ := hit; exact Heap.lt_size q
    have hlt : i < its.toArray.size := by
      rw [List.size_toArray]
      exact (List.getElem?_eq_some_iff.mp hu).1
    obtain ⟨ob, hob, hcb, nb, hdb⟩ := isTup_isTuple p
    have hae : e ≠ a := fun z => by
      rw [← z, he] at hob
      cases hob
      exact absurd (Value.type.inj hcb) (by decide)
    refine wpAny_pyNext_enum_itemD (Draws.tuple (A := X.A.in1) (show X.A.in1.handled = none from I.ok.hd hc) it a hna its.toArray) he ⟨hit, isTup_isTuple p⟩ hlt hne (by simp [hne, hae]) fun x2 h' tk hP ho hst hT hsz hk => ?_
    have ex : x2 = u := by
      have h1 : its.toArray[i]? = some u := by simpa using hu
      exact Option.some.inj (hP.symm.trans h1)
    subst ex
    refine ⟨_, rfl, wpAny_letOwnedTupleGo_enum (s := { s with heap := h', toks := tk + 1 }) ho fun h'' he' sb => ?_⟩
    have hT2 : h''.get? s.heap.objs.size = some { cls := .type "tuple", data := .seq #[.int i tk, x2] } := (sb.2 _ (Nat.ne_of_gt hel)).trans hT
    have new : ObjOk X.prog X.w (upd H s.heap.objs.size (.tup [.int (i : Nat), x])) h'' s.heap.objs.size (.tup [.int (i : Nat), x]) :=
      ⟨by show 2 ≤ sizeLine; decide, [.int i tk, x2], .cons ⟨_, rfl⟩ (.cons ru .nil), ⟨_, hT2, rfl, _, rfl⟩⟩
    have I1 : Inv X pins σ (upd H s.heap.objs.size (.tup [.int (i : Nat), x])) { s with heap := h'', toks := tk + 1 } :=
      I.turnedNew (ch := [e, it]) (fun b ob hb q => (sb.2 b (fun z => hb (by simp [z]))).trans (hk b ob (fun z => hb (by simp [z])) (fun z => hb (by simp [z])) q)) hf (Nat.le_refl _) new
    refine ⟨.ref s.heap.objs.size, _, I1, rfl, ⟨_, x, rfl, I.hok.fresh (Nat.le_refl _), rfl, fun ys hy => by rw [I.tuple_inj hy hq]; exact hx⟩, ⟨⟨x2, ?_⟩, hst.1.at fun o q => (sb.2 it (Ne.symm hne)).trans q, hne, hna⟩, fun b hb => ?_⟩
    · have e1 : ((i + 1 : Nat) : Int) = (i : Int) + 1 := by omega
      rw [e1]; exact he'
    · have hb' : b < s.heap.objs.size := by
        have e' : b = e ∨ b = it := by simpa using hb
        rcases e' with z | z
        · rw [z]; exact hel
        · rw [z]; exact hil
      rw [upd_ne (Nat.ne_of_lt hb')]
      exact (hf b hb).1
  done := by
    intro X hP hw hK hc i pins s σ H E I hf st hg
    subst hP hw hK
    obtain ⟨⟨old, he⟩, hit, hne, hna⟩ := st
    obtain ⟨xs, hq, hx⟩ := hg
    obtain ⟨its, rv, p, hz⟩ := I.tuple hq
    obtain ⟨f0, f1, f2, f3, f4, f5⟩ := hf it (by simp)
    have hl := rv.length
    have hst : its.toArray.size ≤ i := by rw [List.size_toArray]; omega
    have hT : s.TypeIs (.ref e) "enumerate" := ⟨_, he, rfl⟩
    unfold pyNext
    refine wpAny_bind (wpAny_attempt (wpAny_callSpecial?_slot (name := Str.ofString "__next__") hT F.slot_enumerate_next
      (wpAny_call_entry F.slot_enumerate_next hT F.entry_enumerate_next ?_ (F.args_enumerate_next_1 _))))
    show wpAny _ _ (field (.ref e) 2 >>= _) _ _ _
    refine wpAny_bind (wpAny_field he rfl (x := .ref it) rfl ?_)
    refine wpAny_bind (wpAny_nextOf_tuple_end (I.ok.hd hc) hit (isTup_isTuple p) (by simp; omega) fun h' x hx' he' => ?_)
    obtain ⟨o, ho, hc2⟩ := he'
    refine wpAny_bind (wpAny_isInstance (T := "StopIteration") (b := true) ⟨o, ho, hc2⟩ isSubtype_stop ?_)
    exact wpAny_pure ⟨rfl, I.turned (t' := s.toks) (fun b o hb q => hx' b o hb q) f0 f1 f3 f4 f5⟩
  self := fun A i s Q E st h => let ⟨⟨_, he⟩, _⟩ := st; wpAny_pyIter_enum he h
def iEnumT (K : PySem.W.Frag) (ta : TA) : TI := fun σ H R => ta σ H fun vs H1 => ∃ a xs, vs = [.ref a] ∧ SqT K H1 a xs ∧ R (IteT K a) H1
theorem pi_enumT {X : Cx} {e : Expr} {ta : TA} {p pos tpos : Pos} {elts : List Expr} {kk : Nat} (hg : Gl X "enumerate") (hm : X.mg "enumerate" = none) (ha : PA X [e] ta) (hs : starEach [e] X.env = [(false, eval e X.env)]) :
    PI X (.Tuple elts kk tpos) (.Call (.Name "enumerate" p) [e] [] pos) (iEnumT X.K ta) := by
  refine ⟨fun pins s σ H R I h => ?_⟩
  refine Call_ (ld_blt I hg hm boot_enumerate (PyProof.Rows.callWith_type1 (thn (ha.run pos pins s σ H _ I h) fun us s1 ⟨vs, H1, I1, r1, q1⟩ => ?_) hs rfl))
  obtain ⟨a, xs, ex, hq, q⟩ := q1
  subst ex
  cases r1 with
  | cons r rr =>
    cases rr
    cases r
    obtain ⟨its, rv, p', hz⟩ := I1.tuple hq
    refine pd_enum_begins (isTup_isTuple p') fun h' he hit hsz hk => wpAny_pyIter_enum he ?_
    have I2 : Inv X pins σ H1 { s1 with heap := h' } := I1.kept (t' := s1.toks) hk
    refine ⟨s1.heap.objs.size + 1, [s1.heap.objs.size + 1, s1.heap.objs.size], _, _, H1, rfl, I2, turn_enumT a (s1.heap.objs.size + 1) s1.heap.objs.size, ⟨⟨.none, he⟩, ⟨_, hit, rfl, rfl⟩, Nat.succ_ne_self _, Nat.ne_of_lt p'.lt⟩, fun b hb => ?_, q⟩
    have e' : b = s1.heap.objs.size + 1 ∨ b = s1.heap.objs.size := by simpa using hb
    have hle : s1.heap.objs.size ≤ b := by
      rcases e' with z | z
      · rw [z]; exact Nat.le_add_right _ _
      · rw [z]; exact Nat.le_refl _
    exact I1.fpOk hle (I1.hok.fresh hle)
theorem walk_enumT {K : PySem.W.Frag} {a : Addr} {xs : List V} : Walk (IteT K a) xs.length (fun H => SqT K H a xs) (YPair (fun i => some (.int (i : Nat))) (fun i => xs[i]?)) := by
  refine ⟨fun i _ hi q => ⟨xs, xs[i], q, by simp [hi]⟩, fun _ q => ⟨xs, q, Nat.le_refl _⟩, fun i H v H' _ q y => ?_⟩
  obtain ⟨T, x, h1, h2, h3, h4⟩ := y
  exact ⟨T, .int (i : Nat), x, h1, h2, h3, rfl, h4 xs q⟩
theorem walk_zipT {K : PySem.W.Frag} {a b : Addr} {xs ys : List V} {n : Nat} (hn : n = min xs.length ys.length) : Walk (RZ.ItzT K a b) n (fun H => SqT K H a xs ∧ SqT K H b ys) (YPair (fun i => xs[i]?) (fun i => ys[i]?)) := by
  subst hn
  refine ⟨fun i _ hi q => ?_, fun _ q => ⟨xs, ys, q.1, q.2, by omega⟩, fun i H v H' _ q y => ?_⟩
  · have h1 : i < xs.length := by omega
    have h2 : i < ys.length := by omega
    exact ⟨xs, ys, xs[i], ys[i], q.1, q.2, by simp [h1], by simp [h2]⟩
  · obtain ⟨T, x, z, h1, h2, h3, h4, h5⟩ := y
    exact ⟨T, x, z, h1, h2, h3, h4 xs q.1, h5 ys q.2⟩
end PD
/-! tests, targets, what is walked, comprehensions -/
namespace PD
open PySem PySem.Spec PyProof.Rows L2
abbrev IF := List L → M (List D)
abbrev GF := D → List L → M (List L)
/-! ### tests -/
def boolL : L → M Bool
  | .d (.bool b) => .ok b
  | _ => .stuck
def tVal (f : EF) : TF := fun env => (f env).bind boolL
def tAn (f g : TF) : TF := fun env => (f env).bind fun a => if a then g env else .ok false
def tOr (f g : TF) : TF := fun env => (f env).bind fun a => if a then .ok true else g env
def tNt (f : TF) : TF := fun env => (f env).bind fun a => .ok (!a)
def tTrue : TF := fun _ => .ok true
def eIf (t : TF) (f g : EF) : EF := fun env => (t env).bind fun b => if b then f env else g env
def eAn (f g : EF) : EF := fun env => (f env).bind fun a => (boolL a).bind fun b => if b then g env else okB false
def eOr (f g : EF) : EF := fun env => (f env).bind fun a => (boolL a).bind fun b => if b then okB true else g env
def eNt (f : EF) : EF := fun env => (f env).bind fun a => (boolL a).bind fun b => okB (!b)
def eChain (op op' : L → L → M L) (f g h : EF) : EF := fun env => (f env).bind fun a => (g env).bind fun b => (op a b).bind fun z => (boolL z).bind fun r => if r then (h env).bind fun c => op' b c else okB false
section
variable {S : Sys} {k : Nat} {E : XK} {cc : CC} {sc : SC}
theorem boolL_ok {HA G H : Hp} {x : V} {l : L} {b : Bool} (r : WR S HA G H x l) (e : boolL l = .ok b) : x = .bl b := by
  unfold boolL at e
  split at e
  · cases e
    exact DR.toBl r
  · cases e
theorem boolL_ex {l : L} {c : Str} : boolL l ≠ .ex c := fun z => by
  unfold boolL at z
  split at z <;> cases z
theorem evB_of {t : TE} {σ : L2.St} {G H : Hp} {r : M L} (h : EvW S E t σ G H r) : EvB S E (fun σ H Q => t σ H fun x H' => ∃ k, x = .bl k ∧ Q k H') σ G H (r.bind boolL) := by
  refine EvG.bind (tq := t σ H) (k := fun x H1 Q => ∃ k, x = .bl k ∧ Q k H1) h fun x l G2 H2 _ x2 r2 => ⟨G2, x2, ?_⟩
  cases e : boolL l with
  | stuck => exact EvG.stk
  | ex c => exact absurd e boolL_ex
  | ok b => exact EvG.now x2.gh fun Q q => ⟨b, boolL_ok r2 e, q b rfl⟩
def plainT : Expr → Bool
  | .UnaryOp .Not _ _ => false
  | .BoolOp _ _ _ => false
  | .IfExp _ _ _ _ => false
  | .Compare _ _ _ _ => false
  | _ => true
theorem plainT_ok {e : Expr} {env : Env} (h : plainT e = true) : ∀ whole, isTrue e env whole = (do let v ← whole; standAt e.pos; holding [v] (truthy v)) := by
  intro whole
  cases e with
  | UnaryOp op x p => cases op <;> first | rfl | cases h
  | BoolOp op es p => cases h
  | IfExp a b c p => cases h
  | Compare a b c p => cases h
  | _ => rfl
theorem ct_val {e : Expr} {f : EF} (p : plainT e = true) (h : CE S k E cc sc e f) : CT S k E cc sc e (tVal f) := by
  obtain ⟨t, pe, v⟩ := h
  exact ⟨tB t, fun X c => pt_val (pe X c) (plainT_ok p), fun H0 G H σ env at0 => evB_of (v H0 G H σ env at0)⟩
/-- a comparison, as a value and as a test -/
theorem ce_cmp {op : CmpOp} {r : R2} {f' : L → L → M L} {a b : Expr} {f g : EF} {pos : Pos} (ho : ∀ X, CtxOk S k E cc sc X → OpR X (compareOp op) r) (hs : OpS S E r f') (hm : behindInMarks op b = false) (ha : CE S k E cc sc a f) (hb : CE S k E cc sc b g) :
    CE S k E cc sc (.Compare a [op] [b] pos) (eBin f' f g) := ce_op (fun X c ta tb pa pb => pe_cmpR (ho X c) pa pb hm) hs ha hb
theorem ct_cmp {op : CmpOp} {r : R2} {f' : L → L → M L} {a b : Expr} {f g : EF} {pos : Pos} (ho : ∀ X, CtxOk S k E cc sc X → OpR X (compareOp op) r) (hs : OpS S E r f') (hm : behindInMarks op b = false) (ha : CE S k E cc sc a f) (hb : CE S k E cc sc b g) :
    CT S k E cc sc (.Compare a [op] [b] pos) (tVal (eBin f' f g)) := by
  obtain ⟨ta, pa, va⟩ := ha
  obtain ⟨tb, pb, vb⟩ := hb
  refine ⟨tTest (tOp r ta tb), fun X c => pt_cmpR (ho X c) (pa X c) (pb X c) hm, fun H0 G H σ env at0 => evB_of (t := tOp r ta tb) ?_⟩
  refine EvG.bind (tq := ta σ H) (k := fun x H1 Q => tb σ H1 fun y H2 => r x y H2 Q) (va H0 G H σ env at0) fun x l G2 H2 _ x2 r2 => ⟨G2, x2, ?_⟩
  refine EvG.bind (tq := tb σ H2) (k := fun y H2 Q => r x y H2 Q) (vb H0 G2 H2 σ env (at0.up x2)) fun y l2 G3 H3 _ x3 r3 => ⟨G3, x3, ?_⟩
  exact (hs _ _ G3 H3 x y l l2 x3.gh (r2.up x3) r3).weak (bk_W S) fun p h => x2.dom p (x3.dom p h)
theorem ev_chain {r r' : R2} {o o' : L → L → M L} {ta tb tc : TE} {f g h : EF} (hs : OpS S E r o) (hs' : OpS S E r' o')
    (va : ∀ H0 G H σ env, At S H0 G H σ env → EvW S E ta σ G H (f env)) (vb : ∀ H0 G H σ env, At S H0 G H σ env → EvW S E tb σ G H (g env)) (vc : ∀ H0 G H σ env, At S H0 G H σ env → EvW S E tc σ G H (h env)) :
    ∀ H0 G H σ env, At S H0 G H σ env → EvW S E (tChain r r' ta tb tc) σ G H (eChain o o' f g h env) := fun H0 G H σ env at0 => by
  refine EvG.bind (tq := ta σ H) (k := fun x H1 Q => tb σ H1 fun y H2 => r x y H2 fun z H3 => ∃ k, z = .bl k ∧ (if k = true then tc σ H3 fun w' H4 => r' y w' H4 Q else Q (.bl false) H3)) (va H0 G H σ env at0) fun x l G2 H2 _ x2 r2 => ⟨G2, x2, ?_⟩
  refine EvG.bind (tq := tb σ H2) (k := fun y H2 Q => r x y H2 fun z H3 => ∃ k, z = .bl k ∧ (if k = true then tc σ H3 fun w' H4 => r' y w' H4 Q else Q (.bl false) H3)) (vb H0 G2 H2 σ env (at0.up x2)) fun y l2 G3 H3 _ x3 r3 => ⟨G3, x3, ?_⟩
  refine EvG.bind (tq := r x y H3) (k := fun z H3 Q => ∃ k, z = .bl k ∧ (if k = true then tc σ H3 fun w' H4 => r' y w' H4 Q else Q (.bl false) H3)) (hs _ _ G3 H3 x y l l2 x3.gh (r2.up x3) r3) fun z lz G4 H4 _ x4 r4 => ⟨G4, x4, ?_⟩
  cases e : boolL lz with
  | stuck => exact EvG.stk
  | ex c => exact absurd e boolL_ex
  | ok b =>
    have ez := boolL_ok r4 e
    subst ez
    cases b with
    | false => exact okB_now (E := E) x4.gh fun Q q => ⟨false, rfl, q⟩
    | true =>
      show EvG S E (fun _ => WR S H) _ G4 H4 ((h env).bind fun c => o' l2 c)
      refine EvG.imp (tq := fun Q => tc σ H4 fun w' H4 => r' y w' H4 Q) ?_ fun Q q => ⟨true, rfl, q⟩
      refine EvG.bind (tq := tc σ H4) (k := fun w' H4 Q => r' y w' H4 Q) (vc H0 G4 H4 σ env (((at0.up x2).up x3).up x4)) fun w' lw G5 H5 _ x5 r5 => ⟨G5, x5, ?_⟩
      exact (hs' _ _ G5 H5 y w' l2 lw x5.gh ((r3.up x4).up x5) r5).weak (bk_W S) fun p h => x2.dom p (x3.dom p (x4.dom p (x5.dom p h)))
theorem ce_chain {op op' : CmpOp} {r r' : R2} {o o' : L → L → M L} {a b c : Expr} {f g h : EF} {pos : Pos} (ho : ∀ X, CtxOk S k E cc sc X → OpR X (compareOp op) r) (ho' : ∀ X, CtxOk S k E cc sc X → OpR X (compareOp op') r') (hs : OpS S E r o) (hs' : OpS S E r' o')
    (hm : lastMarks [op, op'] [b, c] = false) (ha : CE S k E cc sc a f) (hb : CE S k E cc sc b g) (hc : CE S k E cc sc c h) : CE S k E cc sc (.Compare a [op, op'] [b, c] pos) (eChain o o' f g h) := by
  obtain ⟨ta, pa, va⟩ := ha
  obtain ⟨tb, pb, vb⟩ := hb
  obtain ⟨tc, pc, vc⟩ := hc
  exact ⟨tChain r r' ta tb tc, fun X c => pe_chain (ho X c) (ho' X c) (pa X c) (pb X c) (pc X c) hm, ev_chain hs hs' va vb vc⟩
theorem ct_chain {op op' : CmpOp} {r r' : R2} {o o' : L → L → M L} {a b c : Expr} {f g h : EF} {pos : Pos} (ho : ∀ X, CtxOk S k E cc sc X → OpR X (compareOp op) r) (ho' : ∀ X, CtxOk S k E cc sc X → OpR X (compareOp op') r') (hs : OpS S E r o) (hs' : OpS S E r' o')
    (hm : lastMarks [op, op'] [b, c] = false) (ha : CE S k E cc sc a f) (hb : CE S k E cc sc b g) (hc : CE S k E cc sc c h) : CT S k E cc sc (.Compare a [op, op'] [b, c] pos) (tVal (eChain o o' f g h)) := by
  obtain ⟨ta, pa, va⟩ := ha
  obtain ⟨tb, pb, vb⟩ := hb
  obtain ⟨tc, pc, vc⟩ := hc
  exact ⟨tTest (tChain r r' ta tb tc), fun X c => pt_chain (ho X c) (ho' X c) (pa X c) (pb X c) (pc X c) hm, fun H0 G H σ env at0 => evB_of (ev_chain hs hs' va vb vc H0 G H σ env at0)⟩
/-- and, or as tests: over the rest of the row -/
def CW (S : Sys) (k : Nat) (E : XK) (cc : CC) (sc : SC) (e : Expr) (f : TF) : Prop := ∃ t : TT, (∀ X, CtxOk S k E cc sc X → PW X e t) ∧ ∀ H0 G H σ env, At S H0 G H σ env → EvB S E t σ G H (f env)
theorem CW.ct {e : Expr} {f : TF} (h : CW S k E cc sc e f) : CT S k E cc sc e f := by
  obtain ⟨t, p, v⟩ := h
  exact ⟨t, fun X c => (p X c).pt, v⟩
theorem cw_and1 {a : Expr} {f : TF} {pos : Pos} (h : CT S k E cc sc a f) : CW S k E cc sc (.BoolOp .And [a] pos) f := by
  obtain ⟨t, p, v⟩ := h
  exact ⟨t, fun X c => pw_and1 (p X c), v⟩
theorem cw_or1 {a : Expr} {f : TF} {pos : Pos} (h : CT S k E cc sc a f) : CW S k E cc sc (.BoolOp .Or [a] pos) f := by
  obtain ⟨t, p, v⟩ := h
  exact ⟨t, fun X c => pw_or1 (p X c), v⟩
theorem cw_and {a b : Expr} {rest : List Expr} {f g : TF} {pos : Pos} (ha : CT S k E cc sc a f) (hb : CW S k E cc sc (.BoolOp .And (b :: rest) pos) g) : CW S k E cc sc (.BoolOp .And (a :: b :: rest) pos) (tAn f g) := by
  obtain ⟨t, p, v⟩ := ha
  obtain ⟨u, q, w⟩ := hb
  refine ⟨tAnd t u, fun X c => pw_and (p X c) (q X c), fun H0 G H σ env at0 => ?_⟩
  refine EvG.bind (tq := t σ H) (k := fun c H1 Q => if c = true then u σ H1 Q else Q false H1) (v H0 G H σ env at0) fun x l G2 H2 _ x2 r2 => ⟨G2, x2, ?_⟩
  have e : x = l := r2
  subst e
  cases x with
  | true => exact w H0 G2 H2 σ env (at0.up x2)
  | false => exact EvG.now x2.gh fun Q q => q false rfl
theorem cw_or {a b : Expr} {rest : List Expr} {f g : TF} {pos : Pos} (ha : CT S k E cc sc a f) (hb : CW S k E cc sc (.BoolOp .Or (b :: rest) pos) g) : CW S k E cc sc (.BoolOp .Or (a :: b :: rest) pos) (tOr f g) := by
  obtain ⟨t, p, v⟩ := ha
  obtain ⟨u, q, w⟩ := hb
  refine ⟨L2.tOr t u, fun X c => pw_or (p X c) (q X c), fun H0 G H σ env at0 => ?_⟩
  refine EvG.bind (tq := t σ H) (k := fun c H1 Q => if c = true then Q true H1 else u σ H1 Q) (v H0 G H σ env at0) fun x l G2 H2 _ x2 r2 => ⟨G2, x2, ?_⟩
  have e : x = l := r2
  subst e
  cases x with
  | false => exact w H0 G2 H2 σ env (at0.up x2)
  | true => exact EvG.now x2.gh fun Q q => q true rfl
theorem ct_not {a : Expr} {f : TF} {pos : Pos} (ha : CT S k E cc sc a f) : CT S k E cc sc (.UnaryOp .Not a pos) (tNt f) := by
  obtain ⟨t, p, v⟩ := ha
  refine ⟨tNot t, fun X c => pt_not (p X c), fun H0 G H σ env at0 => ?_⟩
  refine EvG.bind (tq := t σ H) (k := fun c H1 Q => Q (!c) H1) (v H0 G H σ env at0) fun x l G2 H2 _ x2 r2 => ⟨G2, x2, ?_⟩
  have e : x = l := r2
  subst e
  exact EvG.now x2.gh fun Q q => q _ rfl
theorem ce_if {c a b : Expr} {t : TF} {f g : EF} {pos : Pos} (hc : CT S k E cc sc c t) (ha : CE S k E cc sc a f) (hb : CE S k E cc sc b g) : CE S k E cc sc (.IfExp c a b pos) (eIf t f g) := by
  obtain ⟨tt, pc, vc⟩ := hc
  obtain ⟨ta, pa, va⟩ := ha
  obtain ⟨tb, pb, vb⟩ := hb
  refine ⟨tIf tt ta tb, fun X c => pe_ifExp (pc X c) (pa X c) (pb X c), fun H0 G H σ env at0 => ?_⟩
  refine EvG.bind (tq := tt σ H) (k := fun c H1 Q => if c = true then ta σ H1 Q else tb σ H1 Q) (vc H0 G H σ env at0) fun x l G2 H2 _ x2 r2 => ⟨G2, x2, ?_⟩
  have e : x = l := r2
  subst e
  cases x with
  | false => exact (vb H0 G2 H2 σ env (at0.up x2)).weak (bk_W S) x2.dom
  | true => exact (va H0 G2 H2 σ env (at0.up x2)).weak (bk_W S) x2.dom
theorem ce_and {a b : Expr} {rest : List Expr} {f g : EF} {pos : Pos} (ha : CE S k E cc sc a f) (hb : CE S k E cc sc (.BoolOp .And (b :: rest) pos) g) : CE S k E cc sc (.BoolOp .And (a :: b :: rest) pos) (eAn f g) := by
  obtain ⟨ta, pa, va⟩ := ha
  obtain ⟨tb, pb, vb⟩ := hb
  refine ⟨tAndV ta tb, fun X c => pe_and (pa X c) (pb X c), fun H0 G H σ env at0 => ?_⟩
  refine EvG.bind (tq := ta σ H) (k := fun x H1 Q => ∃ c, x = .bl c ∧ if c = true then tb σ H1 Q else Q (.bl false) H1) (va H0 G H σ env at0) fun x l G2 H2 _ x2 r2 => ⟨G2, x2, ?_⟩
  cases e : boolL l with
  | stuck => exact EvG.stk
  | ex c => exact absurd e boolL_ex
  | ok z =>
    have ez := boolL_ok r2 e
    subst ez
    cases z with
    | false => exact okB_now (E := E) x2.gh fun Q q => ⟨false, rfl, q⟩
    | true => exact ((vb H0 G2 H2 σ env (at0.up x2)).weak (bk_W S) x2.dom).imp fun Q q => ⟨true, rfl, q⟩
theorem ce_or {a b : Expr} {rest : List Expr} {f g : EF} {pos : Pos} (ha : CE S k E cc sc a f) (hb : CE S k E cc sc (.BoolOp .Or (b :: rest) pos) g) : CE S k E cc sc (.BoolOp .Or (a :: b :: rest) pos) (eOr f g) := by
  obtain ⟨ta, pa, va⟩ := ha
  obtain ⟨tb, pb, vb⟩ := hb
  refine ⟨tOrV ta tb, fun X c => pe_or (pa X c) (pb X c), fun H0 G H σ env at0 => ?_⟩
  refine EvG.bind (tq := ta σ H) (k := fun x H1 Q => ∃ c, x = .bl c ∧ if c = true then Q (.bl true) H1 else tb σ H1 Q) (va H0 G H σ env at0) fun x l G2 H2 _ x2 r2 => ⟨G2, x2, ?_⟩
  cases e : boolL l with
  | stuck => exact EvG.stk
  | ex c => exact absurd e boolL_ex
  | ok z =>
    have ez := boolL_ok r2 e
    subst ez
    cases z with
    | true => exact okB_now (E := E) x2.gh fun Q q => ⟨true, rfl, q⟩
    | false => exact ((vb H0 G2 H2 σ env (at0.up x2)).weak (bk_W S) x2.dom).imp fun Q q => ⟨false, rfl, q⟩
theorem ce_one {op : BoolOp} {a : Expr} {f : EF} {pos : Pos} (ha : CE S k E cc sc a f) : CE S k E cc sc (.BoolOp op [a] pos) f := by
  obtain ⟨t, p, v⟩ := ha
  exact ⟨t, fun X c => pe_one (p X c), v⟩
theorem ce_not {a : Expr} {f : EF} {pos : Pos} (ha : CE S k E cc sc a f) : CE S k E cc sc (.UnaryOp .Not a pos) (eNt f) := by
  obtain ⟨t, p, v⟩ := ha
  refine ⟨tNotV t, fun X c => pe_not (p X c), fun H0 G H σ env at0 => ?_⟩
  refine EvG.bind (tq := t σ H) (k := fun x H1 (Q : VK) => ∃ c, x = V.bl c ∧ Q (V.bl (!c)) H1) (v H0 G H σ env at0) fun x l G2 H2 _ x2 r2 => ⟨G2, x2, ?_⟩
  cases e : boolL l with
  | stuck => exact EvG.stk
  | ex c => exact absurd e boolL_ex
  | ok z =>
    have ez := boolL_ok r2 e
    subst ez
    exact okB_now (E := E) x2.gh fun Q q => ⟨z, rfl, q⟩
end
/-! ### targets -/
def gNm (i : Nat) : GF := fun x env => .ok (env.set i (.d x))
def gAll : List GF → List D → List L → M (List L)
  | [], [], env => .ok env
  | g :: gs, x :: xs, env => (g x env).bind fun env => gAll gs xs env
  | _, _, _ => .stuck
def gTp (gs : List GF) : GF := fun x env => match x with
  | .tuple xs => gAll gs xs env
  | _ => .stuck
theorem wipe_idem (σ : L2.St) : ∀ vs : List Nat, wipe (wipe σ vs) vs = wipe σ vs := fun vs => by
  have key : ∀ (τ : L2.St) (ws : List Nat), (∀ i ∈ ws, i < τ.length → τ[i]? = some none) → wipe τ ws = τ := fun τ ws => by
    induction ws with
    | nil => intro _; rfl
    | cons v ws ih =>
      intro h
      show (wipe τ ws).set v none = τ
      rw [ih fun i hi => h i (by simp [hi])]
      by_cases hv : v < τ.length
      · have e := h v (by simp) hv
        obtain ⟨_, e2⟩ := List.getElem?_eq_some_iff.mp e
        rw [← e2]
        exact List.set_getElem_self hv
      · exact List.set_eq_of_length_le (by omega)
  refine key _ _ fun i hi hl => ?_
  have : ∀ ws : List Nat, i ∈ ws → i < σ.length → (wipe σ ws)[i]? = some none := fun ws => by
    induction ws with
    | nil => intro h; cases h
    | cons v ws ih =>
      intro h hl
      show ((wipe σ ws).set v none)[i]? = some none
      by_cases hv : v = i
      · subst hv
        rw [List.getElem?_set_self (by rw [wipe_length]; exact hl)]
      · rw [List.getElem?_set_ne hv]
        rcases List.mem_cons.mp h with z | z
        · exact absurd z.symm hv
        · exact ih z hl
  exact this vs hi (by rw [wipe_length] at hl; exact hl)
theorem wipe_set {σ : L2.St} {i : Nat} {v : Option V} : ∀ {vs : List Nat}, i ∈ vs → wipe (σ.set i v) vs = wipe σ vs
  | w :: vs, h => by
    show (wipe (σ.set i v) vs).set w none = (wipe σ vs).set w none
    by_cases hi : i ∈ vs
    · rw [wipe_set hi]
    · have e : w = i := by
        rcases List.mem_cons.mp h with z | z
        · exact z.symm
        · exact absurd z hi
      subst e
      have key : ∀ ws : List Nat, w ∉ ws → wipe (σ.set w v) ws = (wipe σ ws).set w v := fun ws => by
        induction ws with
        | nil => intro _; rfl
        | cons u ws ih =>
          intro hn
          rw [List.mem_cons, not_or] at hn
          show (wipe (σ.set w v) ws).set u none = ((wipe σ ws).set u none).set w v
          rw [ih hn.2, List.set_comm _ _ hn.1]
      rw [key vs hi, List.set_set]
section
variable (S : Sys) (k : Nat) (E : XK) (cc : CC) (sc : SC)
def GOk (gt : TG) (sl : List Nat) (g : GF) : Prop := ∀ H0 G H σ env v x env', At S H0 G H σ env → DR S.K G v x → g x env = .ok env' →
  ∀ Q : L2.St → Hp → Prop, (∀ σ', EnvR S H0 G H σ' env' → (∀ vs, (∀ i ∈ sl, i ∈ vs) → wipe σ' vs = wipe σ vs) → Q σ' H) → gt v σ H Q
def CG (tg : Expr) (sl : List Nat) (g : GF) : Prop := ∃ gt : TG, (∀ X, CtxOk S k E cc sc X → PG X tg gt) ∧ GOk S gt sl g
def CGs (tgs : List Expr) (sl : List Nat) (gs : List GF) : Prop := ∃ gt : TGs, (∀ X, CtxOk S k E cc sc X → PGs X tgs gt) ∧ tgs.all notStar = true ∧ tgs.length = gs.length ∧ ∀ H0 G H σ env vs xs env', At S H0 G H σ env → DRs S.K G vs xs → gAll gs xs env = .ok env' →
  ∀ Q : L2.St → Hp → Prop, (∀ σ', EnvR S H0 G H σ' env' → (∀ vs, (∀ i ∈ sl, i ∈ vs) → wipe σ' vs = wipe σ vs) → Q σ' H) → gt vs σ H Q
end
def locB (sc : SC) (x : Str) : Bool := decide (sc.sc.names.lookup x = some .local) || (decide (sc.sc.names.lookup x = some .cell) && sc.fn x)
section
variable {S : Sys} {k : Nat} {E : XK} {cc : CC} {sc : SC}
theorem locB_ok {x : Str} (h : locB sc x = true) : Loc sc.sc x ∧ (sc.fn x = true ∨ sc.sc.names.lookup x = some .local) := by
  unfold locB at h
  rw [Bool.or_eq_true, Bool.and_eq_true] at h
  rcases h with h | ⟨h1, h2⟩
  · exact ⟨.inl (of_decide_eq_true h), .inr (of_decide_eq_true h)⟩
  · exact ⟨.inr (of_decide_eq_true h1), .inl h2⟩
theorem cg_name {x : Str} {i : Nat} {pos : Pos} (hi : cc.N[i]? = some x) (hl : locB sc x = true) : CG S k E cc sc (.Name x pos) [i] (gNm i) := by
  obtain ⟨h1, h2⟩ := locB_ok hl
  refine ⟨gName i, fun X c => pg_name (by rw [c.N]; exact c.nd) (by rw [c.N]; exact hi) (by rw [c.scp]; exact h1) (by rw [c.fn, c.scp]; exact h2), fun H0 G H σ env v x env' at0 r e Q q => ?_⟩
  cases e
  exact q _ (at0.env.setD i r) fun vs h => wipe_set (h i (by simp))
theorem cgs_nil : CGs S k E cc sc [] [] [] := ⟨gNil, fun X c => pgs_nil, rfl, rfl, fun H0 G H σ env vs xs env' at0 r e Q q => by
  cases r with
  | nil =>
    cases e
    exact ⟨rfl, q _ at0.env fun _ _ => rfl⟩
  | cons _ _ => cases e⟩
theorem assign_cons {e : Expr} {es : List Expr} {env : Env} (h : notStar e = true) : assignEach (e :: es) env = (false, assign e env) :: assignEach es env := by
  cases e <;> first | rfl | cases h
theorem cgs_cons {t : Expr} {ts : List Expr} {sl sl' : List Nat} {g : GF} {gs : List GF} (hs : notStar t = true) (h : CG S k E cc sc t sl g) (hr : CGs S k E cc sc ts sl' gs) : CGs S k E cc sc (t :: ts) (sl ++ sl') (g :: gs) := by
  obtain ⟨gt, p, v⟩ := h
  obtain ⟨ut, q, ns, nl, w⟩ := hr
  refine ⟨gCons gt ut, fun X c => pgs_cons (p X c) (q X c) (by rw [assign_cons hs]; rfl), by rw [List.all_cons, hs, ns]; rfl, by simp [nl], fun H0 G H σ env vs xs env' at0 r e Q hq => ?_⟩
  cases r with
  | nil => cases e
  | cons a r =>
    rename_i x vs x2 xs
    have e' : (g x2 env).bind (fun env => gAll gs xs env) = .ok env' := e
    cases e1 : g x2 env with
    | stuck => rw [e1] at e'; cases e'
    | ex c => rw [e1] at e'; cases e'
    | ok env1 =>
      rw [e1] at e'
      refine ⟨_, _, rfl, v H0 G H σ env _ _ env1 at0 a e1 _ fun σ1 r1 w1 => ?_⟩
      refine w H0 G H σ1 env1 _ _ env' ⟨at0.sb, at0.tb, r1⟩ r e' _ fun σ2 r2 w2 => hq σ2 r2 fun vs hv => ?_
      rw [w2 vs fun i hi => hv i (by simp [hi]), w1 vs fun i hi => hv i (by simp [hi])]
theorem assign_len {env : Env} : ∀ {es : List Expr}, es.all notStar = true → (assignEach es env).length = es.length ∧ (assignEach es env).findIdx? (·.1) = none
  | [], _ => ⟨rfl, rfl⟩
  | e :: es, h => by
    rw [List.all_cons, Bool.and_eq_true] at h
    obtain ⟨h1, h2⟩ := assign_len (env := env) h.2
    rw [assign_cons h.1]
    exact ⟨by simp [h1], by rw [List.findIdx?_cons]; simp [h2]⟩
theorem cg_tup {ts : List Expr} {sl : List Nat} {gs : List GF} {n : Nat} {pos : Pos} (h : CGs S k E cc sc ts sl gs) : CG S k E cc sc (.Tuple ts n pos) sl (gTp gs) := by
  obtain ⟨gt, p, ns, nl, w⟩ := h
  refine ⟨gTup S.K ts.length gt, fun X c => by rw [← c.K]; exact pg_tup c.calm (p X c) (assign_len ns).1 (assign_len ns).2, fun H0 G H σ env v x env' at0 r e Q q => ?_⟩
  cases x <;> first | (cases e; done) | skip
  rename_i xs
  obtain ⟨a, vs, rfl, h1, r1⟩ := DR.toTup r
  have e' : gAll gs xs env = .ok env' := e
  refine ⟨a, vs, rfl, at0.sb.xt.sqT h1, ?_, w H0 G H σ env vs xs env' at0 r1 e' Q q⟩
  have key : ∀ (gs : List GF) (xs : List D) (env env' : List L), gAll gs xs env = .ok env' → xs.length = gs.length := fun gs => by
    induction gs with
    | nil =>
      intro xs env env' h
      cases xs with
      | nil => rfl
      | cons _ _ => cases h
    | cons g gs ih =>
      intro xs env env' h
      cases xs with
      | nil => cases h
      | cons x xs =>
        have h' : (g x env).bind (fun env => gAll gs xs env) = .ok env' := h
        cases e1 : g x env with
        | stuck => rw [e1] at h'; cases h'
        | ex c => rw [e1] at h'; cases h'
        | ok env1 =>
          rw [e1] at h'
          simp [ih xs env1 env' h']
  rw [r1.length, key gs xs env env' e', nl]
end
end PD
/-! what is walked; comprehensions -/
namespace PD
open PySem PySem.Spec PyProof.Rows L2
/-- J walks over xs, from G2 H2 on -/
def RIt (S : Sys) : Hp → Hp → Hp → It → List D → Prop := fun _ G2 H2 J xs => ∃ (Gd : Hp → Prop) (Y : Nat → Hp → V → Hp → Prop), Walk J xs.length Gd Y ∧ (∀ H', Xt G2 H' → Gd H') ∧
  ∀ (i : Nat) (x : D) (G3 H3 : Hp) (v : V) (H4 : Hp), xs[i]? = some x → Xt G2 G3 → Sb G3 H3 → Y i H3 v H4 → ∃ G4, Gr S G3 H3 G4 H4 ∧ DR S.K G4 v x
abbrev EvI (S : Sys) (E : XK) (wi : TI) (σ : L2.St) (G H : Hp) (r : M (List D)) : Prop := EvG S E (RIt S) (wi σ H) G H r
def CI (S : Sys) (k : Nat) (E : XK) (cc : CC) (sc : SC) (tg iter : Expr) (f : IF) : Prop := ∃ wi : TI, (∀ X, CtxOk S k E cc sc X → PI X tg iter wi) ∧ ∀ H0 G H σ env, At S H0 G H σ env → EvI S E wi σ G H (f env)
def itL : L → M (List D)
  | .d (.list xs) => .ok xs
  | .d (.tuple xs) => .ok xs
  | _ => .stuck
def iEx (f : EF) : IF := fun env => (f env).bind fun l => (fzL l).bind itL
def rngD (lo : Int) (n : Nat) : List D := (List.range n).map fun i => .int (lo + (i : Nat))
def b62 (i : Int) : Bool := decide (-(2 ^ 62) ≤ i) && decide (i < 2 ^ 62)
def int1 (f : Int → M (List D)) : L → M (List D)
  | .d (.int j) => f j
  | _ => .stuck
def iR1 (f : EF) : IF := fun env => (f env).bind (int1 fun j => if b62 j = true then .ok (rngD 0 j.toNat) else .stuck)
def iR2 (f g : EF) : IF := fun env => (f env).bind fun a => (g env).bind fun b => int1 (fun i => int1 (fun j => if b62 i = true ∧ b62 j = true then .ok (rngD i (j - i).toNat) else .stuck) b) a
def iR3 (f g : EF) : IF := fun env => (f env).bind fun a => (g env).bind fun b => int1 (fun i => int1 (fun j => if b62 i = true ∧ b62 j = true then .ok ((List.range (i - j).toNat).map fun k => .int (i - (k : Nat))) else .stuck) b) a
def enumD : Nat → List D → List D
  | _, [] => []
  | n, x :: xs => .tuple [.int (n : Nat), x] :: enumD (n + 1) xs
def iEn (f : EF) : IF := fun env => (f env).bind fun l => (fzL l).bind fun l => (itL l).bind fun xs => .ok (enumD 0 xs)
def zipD : List D → List D → List D
  | x :: xs, y :: ys => .tuple [x, y] :: zipD xs ys
  | _, _ => []
def zipL : L → L → M (List D)
  | .d (.list xs), .d (.list ys) => .ok (zipD xs ys)
  | .d (.tuple xs), .d (.tuple ys) => .ok (zipD xs ys)
  | _, _ => .stuck
def iZp (f g : EF) : IF := fun env => (f env).bind fun a => (fzL a).bind fun a => (g env).bind fun b => (fzL b).bind fun b => zipL a b
section
variable {S : Sys} {k : Nat} {E : XK} {cc : CC} {sc : SC}
theorem fzL_ex {l : L} {c : Str} : fzL l ≠ .ex c := fun z => by
  unfold fzL at z
  cases l <;> cases z
theorem itL_ex {l : L} {c : Str} : itL l ≠ .ex c := fun z => by
  unfold itL at z
  split at z <;> cases z
/-- frozen, then used -/
theorem ev_fz {te : TE} {σ : L2.St} {G H : Hp} {r : M L} {γ δ : Type} {R' : Hp → Hp → Hp → γ → δ → Prop} {kk : V → Hp → (γ → Hp → Prop) → Prop} {g : L → M δ} (h : EvW S E te σ G H r)
    (hk : ∀ x d G2 H2, Gr S G H G2 H2 → DR S.K G2 x d → EvG S E (fun _ => R' H) (kk x H2) G2 H2 (g (.d d))) : EvG S E R' (fun Q => te σ H fun x H2 => kk x H2 Q) G H (r.bind fun l => (fzL l).bind g) := by
  refine EvG.bind (tq := te σ H) (k := kk) h fun x l G2 H2 _ x2 r2 => ?_
  unfold fzL
  cases e1 : l.fz with
  | stuck => exact ⟨G2, x2, EvG.stk⟩
  | ex c =>
    exact absurd e1 fun z => by cases l <;> cases z
  | ok d =>
    obtain ⟨G3, x3, r3⟩ := r2.fz x2 e1
    exact ⟨G3, x3, hk x d G3 H2 x3 r3⟩
theorem rit_list {H G2 H2 : Hp} {a : Addr} {vs : List V} {xs : List D} (h1 : G2 a = some (.lst vs)) (r1 : DRs S.K G2 vs xs) : RIt S H G2 H2 (Itl S.K a) xs := by
  refine ⟨fun H' => SqL S.K H' a vs, YAt vs, ?_, fun H' x => SqL.of (x.lst h1), fun i x G3 H3 v H4 ei x3 sb y => ?_⟩
  · rw [← r1.length]
    exact walk_list
  · obtain ⟨rfl, hy⟩ := y
    obtain ⟨v', hv, rv⟩ := r1.get ei
    rw [hv] at hy
    cases hy
    exact ⟨G3, Gr.refl sb, rv.up x3⟩
theorem rit_tup {H G2 H2 : Hp} {a : Addr} {vs : List V} {xs : List D} (h1 : SqT S.K G2 a vs) (r1 : DRs S.K G2 vs xs) : RIt S H G2 H2 (Itt S.K a) xs := by
  refine ⟨fun H' => SqT S.K H' a vs, YAt vs, ?_, fun H' x => x.sqT h1, fun i x G3 H3 v H4 ei x3 sb y => ?_⟩
  · rw [← r1.length]
    exact walk_tup
  · obtain ⟨rfl, hy⟩ := y
    obtain ⟨v', hv, rv⟩ := r1.get ei
    rw [hv] at hy
    cases hy
    exact ⟨G3, Gr.refl sb, rv.up x3⟩
/-- a new pair each turn -/
theorem rit_pair {H G2 H2 : Hp} {J : It} {Gd : Hp → Prop} {f g : Nat → Option V} {n : Nat} {xs : List D} (w : Walk J n Gd (YPair f g)) (hn : n = xs.length) (hG : ∀ H', Xt G2 H' → Gd H')
    (hx : ∀ (i : Nat) (x : D) (u v : V), xs[i]? = some x → f i = some u → g i = some v → ∃ d e, x = .tuple [d, e] ∧ DR S.K G2 u d ∧ DR S.K G2 v e) : RIt S H G2 H2 J xs := by
  subst hn
  refine ⟨Gd, _, w, hG, fun i x G3 H3 v H4 ei x3 sb y => ?_⟩
  obtain ⟨T, u1, u2, rfl, hT, rfl, e1, e2⟩ := y
  obtain ⟨d, e, rfl, r1, r2⟩ := hx i x u1 u2 ei e1 e2
  exact ⟨_, Gr.newF sb hT (fun ps z => by cases z), .tup (SqT.of upd_same) (.cons ((r1.up x3).up (Xt.upd (sb.none hT))) (.cons ((r2.up x3).up (Xt.upd (sb.none hT))) .nil))⟩
/-- ints, told by the turn -/
theorem rit_ints {H G2 H2 : Hp} {J : It} {n : Nat} {f : Nat → Int} (w : Walk J n (fun _ => True) (YFn fun i => .int (f i))) : RIt S H G2 H2 J ((List.range n).map fun i => .int (f i)) := by
  refine ⟨fun _ => True, YFn fun i => .int (f i), by rw [List.length_map, List.length_range]; exact w, fun _ _ => True.intro, fun i x G3 H3 v H4 ei x3 sb y => ?_⟩
  obtain ⟨rfl, rfl⟩ := y
  have hi : i < n := by
    have h := (List.getElem?_eq_some_iff.mp ei).1
    rwa [List.length_map, List.length_range] at h
  rw [List.getElem?_map, List.getElem?_range hi] at ei
  cases ei
  exact ⟨G3, Gr.refl sb, .int _⟩
/-! what is walked: a list or a tuple -/
def iSeq (K : Frg) (tl : TE) : TI := fun σ H R => tl σ H fun x H1 => ∃ a, x = .ref a ∧ (((∃ xs, SqL K H1 a xs) ∧ R (Itl K a) H1) ∨ ((∃ xs, SqT K H1 a xs) ∧ R (Itt K a) H1))
theorem pi_seq {X : Cx} {tg l : Expr} {tl : TE} (hl : PE X l tl) : PI X tg l (iSeq X.K tl) := by
  refine ⟨fun pins s σ H R I h => ?_⟩
  refine thn (hl.run pins s σ H _ I h) fun v s1 ⟨x, H1, I1, r1, q1⟩ => ?_
  obtain ⟨a, e, q1⟩ := q1
  subst e
  cases r1
  rcases q1 with ⟨⟨xs, hq⟩, q⟩ | ⟨⟨xs, hq⟩, q⟩
  · obtain ⟨its, rv, p, hz⟩ := I1.list hq
    refine wpAny_pyIter_list p.isList ?_
    refine ⟨s1.heap.objs.size, [s1.heap.objs.size], _, _, H1, rfl, I1.kept (t' := s1.toks) fun b o e => Heap.get?_push_of_some _ e, turn_list a _, ⟨_, Heap.get?_push_size _ rfl, rfl, rfl⟩, fun b hb => ?_, q⟩
    have e : b = s1.heap.objs.size := by simpa using hb
    subst e
    exact I1.fpOk (Nat.le_refl _) (I1.hok.fresh (Nat.le_refl _))
  · obtain ⟨its, rv, p, hz⟩ := I1.tuple hq
    refine wpAny_pyIter_tuple (show s1.heap.IsTuple a its.toArray from p) ?_
    refine ⟨s1.heap.objs.size, [s1.heap.objs.size], _, _, H1, rfl, I1.kept (t' := s1.toks) fun b o e => Heap.get?_push_of_some _ e, turn_tuple a _, ⟨_, Heap.get?_push_size _ rfl, rfl, rfl⟩, fun b hb => ?_, q⟩
    have e : b = s1.heap.objs.size := by simpa using hb
    subst e
    exact I1.fpOk (Nat.le_refl _) (I1.hok.fresh (Nat.le_refl _))
def iEnumA (K : Frg) (ta : TA) : TI := fun σ H R => ta σ H fun vs H1 => ∃ a xs, vs = [.ref a] ∧ ((SqL K H1 a xs ∧ R (Ite K a) H1) ∨ (SqT K H1 a xs ∧ R (IteT K a) H1))
theorem pi_enumA {X : Cx} {e : Expr} {ta : TA} {p pos tpos : Pos} {elts : List Expr} {kk : Nat} (hg : Gl X "enumerate") (hm : X.mg "enumerate" = none) (ha : PA X [e] ta) (hs : starEach [e] X.env = [(false, eval e X.env)]) :
    PI X (.Tuple elts kk tpos) (.Call (.Name "enumerate" p) [e] [] pos) (iEnumA X.K ta) := by
  refine ⟨fun pins s σ H R I h => ?_⟩
  refine Call_ (ld_blt I hg hm boot_enumerate (PyProof.Rows.callWith_type1 (thn (ha.run pos pins s σ H _ I h) fun us s1 ⟨vs, H1, I1, r1, q1⟩ => ?_) hs rfl))
  obtain ⟨a, xs, ex, hq⟩ := q1
  subst ex
  cases r1 with
  | cons r rr =>
    cases rr
    cases r
    have fresh2 : ∀ b ∈ [s1.heap.objs.size + 1, s1.heap.objs.size], FpOk X pins H1 b := fun b hb => by
      have e' : b = s1.heap.objs.size + 1 ∨ b = s1.heap.objs.size := by simpa using hb
      have hle : s1.heap.objs.size ≤ b := by
        rcases e' with z | z
        · rw [z]; exact Nat.le_add_right _ _
        · rw [z]; exact Nat.le_refl _
      exact I1.fpOk hle (I1.hok.fresh hle)
    rcases hq with ⟨hq, q⟩ | ⟨hq, q⟩
    · obtain ⟨its, rv, p', hz⟩ := I1.list hq
      refine call_enumerate_list p'.isList fun h' he hit hsz hk => wpAny_pyIter_enum he ?_
      have I2 : Inv X pins σ H1 { s1 with heap := h' } := I1.kept (t' := s1.toks) hk
      exact ⟨s1.heap.objs.size + 1, [s1.heap.objs.size + 1, s1.heap.objs.size], _, _, H1, rfl, I2, turn_enum a (s1.heap.objs.size + 1) s1.heap.objs.size, ⟨⟨.none, he⟩, hit, Nat.succ_ne_self _⟩, fresh2, q⟩
    · obtain ⟨its, rv, p', hz⟩ := I1.tuple hq
      refine pd_enum_begins (isTup_isTuple p') fun h' he hit hsz hk => wpAny_pyIter_enum he ?_
      have I2 : Inv X pins σ H1 { s1 with heap := h' } := I1.kept (t' := s1.toks) hk
      exact ⟨s1.heap.objs.size + 1, [s1.heap.objs.size + 1, s1.heap.objs.size], _, _, H1, rfl, I2, turn_enumT a (s1.heap.objs.size + 1) s1.heap.objs.size, ⟨⟨.none, he⟩, ⟨_, hit, rfl, rfl⟩, Nat.succ_ne_self _, Nat.ne_of_lt p'.lt⟩, fresh2, q⟩
theorem ci_ex {tg e : Expr} {f : EF} (h : CE S k E cc sc e f) : CI S k E cc sc tg e (iEx f) := by
  obtain ⟨t, p, v⟩ := h
  refine ⟨iSeq S.K t, fun X c => by rw [← c.K]; exact pi_seq (p X c), fun H0 G H σ env at0 => ?_⟩
  refine ev_fz (te := t) (kk := fun x H1 (R : It → Hp → Prop) => ∃ a, x = .ref a ∧ (((∃ xs, SqL S.K H1 a xs) ∧ R (Itl S.K a) H1) ∨ ((∃ xs, SqT S.K H1 a xs) ∧ R (Itt S.K a) H1))) (v H0 G H σ env at0) fun x d G2 H2 x2 r2 => ?_
  unfold itL
  split
  · rename_i xs e
    cases e
    obtain ⟨a, vs, rfl, h1, r1⟩ := DR.toLst r2
    exact EvG.now x2.gh fun Q q => ⟨a, rfl, .inl ⟨⟨vs, SqL.of (x2.gh.xt.lst h1)⟩, q _ (rit_list h1 r1)⟩⟩
  · rename_i xs e
    cases e
    obtain ⟨a, vs, rfl, h1, r1⟩ := DR.toTup r2
    exact EvG.now x2.gh fun Q q => ⟨a, rfl, .inr ⟨⟨vs, x2.gh.xt.sqT h1⟩, q _ (rit_tup h1 r1)⟩⟩
  · exact EvG.stk
theorem b62_ok {i : Int} (h : b62 i = true) : -(2 ^ 62) ≤ i ∧ i < 2 ^ 62 := by
  unfold b62 at h
  rw [Bool.and_eq_true] at h
  exact ⟨of_decide_eq_true h.1, of_decide_eq_true h.2⟩
theorem blt_none {x : Str} (C : CcOk S k cc) (hb : cc.fns.all (fun e => !(e.x == x)) = true) (hx : x ∈ bltNames) : S.mg x = none := by
  rcases C.blt x hx with ⟨e, he, ex⟩ | z
  · have h1 := List.all_eq_true.mp hb e he
    rw [ex, beq_self_eq_true] at h1
    exact absurd h1 (by decide)
  · exact z
theorem int1_ok {HA G H : Hp} {α : Type} {R : Hp → Hp → Hp → α → List D → Prop} {tq : (α → Hp → Prop) → Prop} {v : V} {l : L} {f : Int → M (List D)} (r : WR S HA G H v l) (h : ∀ i, v = .int i → EvG S E R tq G H (f i)) : EvG S E R tq G H (int1 f l) := by
  unfold int1
  split
  · rename_i j
    exact h j (DR.toInt r)
  · exact EvG.stk
theorem ci_range1 {tg a : Expr} {f : EF} {p pos : Pos} (C : CcOk S k cc) (hb : cc.fns.all (fun e => !(e.x == ("range" : Str))) = true) (hg : glB sc "range" = true) (hs : notStar a = true) (h : CE S k E cc sc a f) :
    CI S k E cc sc tg (.Call (.Name "range" p) [a] [] pos) (iR1 f) := by
  obtain ⟨t, pa, v⟩ := h
  have hm : S.mg "range" = none := blt_none C hb (by decide)
  refine ⟨iRng1 (tCons t tNil), fun X c => ?_, fun H0 G H σ env at0 => ?_⟩
  · obtain ⟨g1, g2, _⟩ := glB_ok c hg
    exact pi_range1 g1 (by rw [c.mg]; exact hm) (pa_cons (pa X c) pa_nil (star_cons hs)) (star_cons hs)
  · refine EvG.bind (tq := t σ H) (k := fun x H1 (R : It → Hp → Prop) => ∃ j : Int, [x] = [.int j] ∧ -(2 ^ 62) ≤ j ∧ j < 2 ^ 62 ∧ R (Itr 0 j.toNat) H1) (v H0 G H σ env at0) fun x l G2 H2 el x2 r2 => ⟨G2, x2, int1_ok r2 fun j ej => ?_⟩
    subst ej
    split
    · rename_i hb
      exact EvG.now x2.gh fun Q q => ⟨j, rfl, (b62_ok hb).1, (b62_ok hb).2, q _ (rit_ints walk_range)⟩
    · exact EvG.stk
theorem ci_range2 {tg a b : Expr} {f g : EF} {p pos : Pos} (C : CcOk S k cc) (hb : cc.fns.all (fun e => !(e.x == ("range" : Str))) = true) (hg : glB sc "range" = true) (hs : notStar a = true) (hs2 : notStar b = true) (h : CE S k E cc sc a f) (h2 : CE S k E cc sc b g) :
    CI S k E cc sc tg (.Call (.Name "range" p) [a, b] [] pos) (iR2 f g) := by
  obtain ⟨t, pa, v⟩ := h
  obtain ⟨u, pu, w⟩ := h2
  have hm : S.mg "range" = none := blt_none C hb (by decide)
  refine ⟨iRng2 (tCons t (tCons u tNil)), fun X c => ?_, fun H0 G H σ env at0 => ?_⟩
  · obtain ⟨g1, g2, _⟩ := glB_ok c hg
    exact pi_range2 g1 (by rw [c.mg]; exact hm) (pa_cons (pa X c) (pa_cons (pu X c) pa_nil (star_cons hs2)) (star_cons hs)) (by rw [star_cons hs, star_cons hs2]; rfl) (star_cons hs2)
  · refine EvG.bind (tq := t σ H) (k := fun x H1 (R : It → Hp → Prop) => u σ H1 fun y H2 => ∃ i j : Int, [x, y] = [.int i, .int j] ∧ (-(2 ^ 62) ≤ i ∧ i < 2 ^ 62 ∧ -(2 ^ 62) ≤ j ∧ j < 2 ^ 62) ∧ R (Itr i (j - i).toNat) H2) (v H0 G H σ env at0) fun x l G2 H2 el x2 r2 => ⟨G2, x2, ?_⟩
    refine EvG.bind (tq := u σ H2) (k := fun y H2 (R : It → Hp → Prop) => ∃ i j : Int, [x, y] = [.int i, .int j] ∧ (-(2 ^ 62) ≤ i ∧ i < 2 ^ 62 ∧ -(2 ^ 62) ≤ j ∧ j < 2 ^ 62) ∧ R (Itr i (j - i).toNat) H2) (w H0 G2 H2 σ env (at0.up x2)) fun y l2 G3 H3 el2 x3 r3 => ⟨G3, x3, int1_ok (r2.up x3) fun i ei => int1_ok r3 fun j ej => ?_⟩
    subst ei ej
    split
    · rename_i hb
      exact EvG.now x3.gh fun Q q => ⟨i, j, rfl, ⟨(b62_ok hb.1).1, (b62_ok hb.1).2, (b62_ok hb.2).1, (b62_ok hb.2).2⟩, q _ (rit_ints walk_range)⟩
    · exact EvG.stk
theorem ce_m1 {n : Nat} {p1 p2 : Pos} : CE S k E cc sc (.UnaryOp .USub (.Constant (.int 1) n p1) p2) (eC (.int (-1))) :=
  ⟨tUn (rU fun i => .int (-i)) (tC (.int 1)), fun X c => pe_un un_neg pe_int, fun H0 G H σ env a => EvG.now a.sb fun Q q => ⟨1, rfl, q (.int (-1)) (.int _)⟩⟩
theorem ci_range3 {tg a b : Expr} {f g : EF} {p pos p1 p2 : Pos} {n : Nat} (C : CcOk S k cc) (hb : cc.fns.all (fun e => !(e.x == ("range" : Str))) = true) (hg : glB sc "range" = true) (hs : notStar a = true) (hs2 : notStar b = true) (h : CE S k E cc sc a f) (h2 : CE S k E cc sc b g) :
    CI S k E cc sc tg (.Call (.Name "range" p) [a, b, .UnaryOp .USub (.Constant (.int 1) n p1) p2] [] pos) (iR3 f g) := by
  obtain ⟨t, pa, v⟩ := h
  obtain ⟨u, pu, w⟩ := h2
  have hm : S.mg "range" = none := blt_none C hb (by decide)
  refine ⟨iRng3 (tCons t (tCons u (tCons (tUn (rU fun i => .int (-i)) (tC (.int 1))) tNil))), fun X c => ?_, fun H0 G H σ env at0 => ?_⟩
  · obtain ⟨g1, g2, _⟩ := glB_ok c hg
    exact pi_range3 g1 (by rw [c.mg]; exact hm) (pa_cons (pa X c) (pa_cons (pu X c) (pa_cons (pe_un un_neg pe_int) pa_nil) (star_cons hs2)) (star_cons hs)) (star_cons hs) (by rw [back_any]; exact star_any (by rw [List.all_cons, hs2]; rfl))
  · refine EvG.bind (tq := t σ H) (k := fun x H1 (R : It → Hp → Prop) => u σ H1 fun y H2 => ∃ i1, V.int 1 = .int i1 ∧ ∃ (i j c : Int) (n : Nat), [x, y, V.int (-i1)] = [.int i, .int j, .int c] ∧ RgC i j c n ∧ R (Itc i c n) H2) (v H0 G H σ env at0) fun x l G2 H2 el x2 r2 => ⟨G2, x2, ?_⟩
    refine EvG.bind (tq := u σ H2) (k := fun y H2 (R : It → Hp → Prop) => ∃ i1, V.int 1 = .int i1 ∧ ∃ (i j c : Int) (n : Nat), [x, y, V.int (-i1)] = [.int i, .int j, .int c] ∧ RgC i j c n ∧ R (Itc i c n) H2) (w H0 G2 H2 σ env (at0.up x2)) fun y l2 G3 H3 el2 x3 r3 => ⟨G3, x3, int1_ok (r2.up x3) fun i ei => int1_ok r3 fun j ej => ?_⟩
    subst ei ej
    split
    · rename_i hb
      refine EvG.now x3.gh fun Q q => ⟨1, rfl, i, j, -1, (i - j).toNat, rfl, RgC.neg (b62_ok hb.1).1 (b62_ok hb.1).2 (b62_ok hb.2).1 (b62_ok hb.2).2, q _ ?_⟩
      have w1 := rit_ints (S := S) (H := H) (G2 := G3) (H2 := H3) (walk_rangeC (lo := i) (c := -1) (n := (i - j).toNat))
      have e : (fun k : Nat => PyData.int (i + (k : Nat) * (-1 : Int))) = fun k : Nat => PyData.int (i - (k : Nat)) := by
        funext k
        rw [show i + (k : Int) * (-1) = i - (k : Int) by omega]
      rw [e] at w1
      exact w1
    · exact EvG.stk
theorem enum_get : ∀ (xs : List D) (n i : Nat) (x : D), (enumD n xs)[i]? = some x → ∃ d, xs[i]? = some d ∧ x = .tuple [.int ((n + i : Nat) : Int), d]
  | [], _, _, _, h => by simp [enumD] at h
  | d :: xs, n, 0, x, h => by
    simp [enumD] at h
    exact ⟨d, rfl, h.symm⟩
  | d :: xs, n, i + 1, x, h => by
    have h' : (enumD (n + 1) xs)[i]? = some x := by simpa [enumD] using h
    obtain ⟨e, h1, h2⟩ := enum_get xs (n + 1) i x h'
    exact ⟨e, by simpa using h1, by rw [h2]; congr 3; omega⟩
theorem enum_len : ∀ (xs : List D) (n : Nat), (enumD n xs).length = xs.length
  | [], _ => rfl
  | _ :: xs, n => by simp [enumD, enum_len xs (n + 1)]
theorem ci_enum {ts : List Expr} {n : Nat} {tpos : Pos} {e : Expr} {f : EF} {p pos : Pos} (C : CcOk S k cc) (hb : cc.fns.all (fun e => !(e.x == ("enumerate" : Str))) = true) (hg : glB sc "enumerate" = true) (hs : notStar e = true) (h : CE S k E cc sc e f) :
    CI S k E cc sc (.Tuple ts n tpos) (.Call (.Name "enumerate" p) [e] [] pos) (iEn f) := by
  obtain ⟨t, pe, v⟩ := h
  have hm : S.mg "enumerate" = none := blt_none C hb (by decide)
  refine ⟨iEnumA S.K (tCons t tNil), fun X c => ?_, fun H0 G H σ env at0 => ?_⟩
  · obtain ⟨g1, g2, _⟩ := glB_ok c hg
    rw [← c.K]
    exact pi_enumA g1 (by rw [c.mg]; exact hm) (pa_cons (pe X c) pa_nil (star_cons hs)) (star_cons hs)
  · refine ev_fz (te := t) (kk := fun x H1 (R : It → Hp → Prop) => ∃ a xs, [x] = [V.ref a] ∧ ((SqL S.K H1 a xs ∧ R (Ite S.K a) H1) ∨ (SqT S.K H1 a xs ∧ R (IteT S.K a) H1))) (v H0 G H σ env at0) fun x d G2 H2 x2 r2 => ?_
    unfold itL
    split
    · rename_i xs e
      cases e
      obtain ⟨a, vs, rfl, h1, r1⟩ := DR.toLst r2
      refine EvG.now x2.gh fun Q q => ⟨a, vs, rfl, .inl ⟨SqL.of (x2.gh.xt.lst h1), q _ (rit_pair walk_enum (by rw [enum_len, r1.length]) (fun H' z => SqL.of (z.lst h1)) fun i x u v ei eu ev => ?_)⟩⟩
      obtain ⟨d, hd, rfl⟩ := enum_get xs 0 i x ei
      cases eu
      obtain ⟨v', hv, rv⟩ := r1.get hd
      rw [hv] at ev
      cases ev
      exact ⟨_, d, rfl, by rw [Nat.zero_add]; exact .int _, rv⟩
    · rename_i xs e
      cases e
      obtain ⟨a, vs, rfl, h1, r1⟩ := DR.toTup r2
      refine EvG.now x2.gh fun Q q => ⟨a, vs, rfl, .inr ⟨x2.gh.xt.sqT h1, q _ (rit_pair walk_enumT (by rw [enum_len, r1.length]) (fun H' z => z.sqT h1) fun i x u v ei eu ev => ?_)⟩⟩
      obtain ⟨d, hd, rfl⟩ := enum_get xs 0 i x ei
      cases eu
      obtain ⟨v', hv, rv⟩ := r1.get hd
      rw [hv] at ev
      cases ev
      exact ⟨_, d, rfl, by rw [Nat.zero_add]; exact .int _, rv⟩
    · exact EvG.stk
theorem zip_get : ∀ (xs ys : List D) (i : Nat) (x : D), (zipD xs ys)[i]? = some x → ∃ d e, xs[i]? = some d ∧ ys[i]? = some e ∧ x = .tuple [d, e]
  | [], _, _, _, h => by simp [zipD] at h
  | _ :: _, [], _, _, h => by simp [zipD] at h
  | d :: xs, e :: ys, 0, x, h => by
    simp [zipD] at h
    exact ⟨d, e, rfl, rfl, h.symm⟩
  | d :: xs, e :: ys, i + 1, x, h => by
    have h' : (zipD xs ys)[i]? = some x := by simpa [zipD] using h
    obtain ⟨a, b, h1, h2, h3⟩ := zip_get xs ys i x h'
    exact ⟨a, b, by simpa using h1, by simpa using h2, h3⟩
theorem zip_len : ∀ (xs ys : List D), (zipD xs ys).length = min xs.length ys.length
  | [], _ => by simp [zipD]
  | _ :: _, [] => by simp [zipD]
  | _ :: xs, _ :: ys => by simp [zipD, zip_len xs ys]
theorem ci_zip {ts : List Expr} {n : Nat} {tpos : Pos} {e e2 : Expr} {f g : EF} {p pos : Pos} (C : CcOk S k cc) (hb : cc.fns.all (fun e => !(e.x == ("zip" : Str))) = true) (hg : glB sc "zip" = true) (hs : notStar e = true) (hs2 : notStar e2 = true) (h : CE S k E cc sc e f) (h2 : CE S k E cc sc e2 g) :
    CI S k E cc sc (.Tuple ts n tpos) (.Call (.Name "zip" p) [e, e2] [] pos) (iZp f g) := by
  obtain ⟨t, pe, v⟩ := h
  obtain ⟨u, pu, w⟩ := h2
  have hm : S.mg "zip" = none := blt_none C hb (by decide)
  refine ⟨RZ.iZipA S.K (tCons t (tCons u tNil)), fun X c => ?_, fun H0 G H σ env at0 => ?_⟩
  · obtain ⟨g1, g2, _⟩ := glB_ok c hg
    rw [← c.K]
    exact RZ.pi_zipA g1 (by rw [c.mg]; exact hm) (pa_cons (pe X c) (pa_cons (pu X c) pa_nil (star_cons hs2)) (star_cons hs)) (star_cons hs) (by rw [back_any]; exact star_any (by rw [List.all_cons, hs2]; rfl))
  · refine ev_fz (te := t) (kk := fun x H1 (R : It → Hp → Prop) => u σ H1 fun y H2 => ∃ a b xs ys, [x, y] = [V.ref a, V.ref b] ∧ ((SqL S.K H2 a xs ∧ SqL S.K H2 b ys ∧ R (Itz S.K a b) H2) ∨ (SqT S.K H2 a xs ∧ SqT S.K H2 b ys ∧ R (RZ.ItzT S.K a b) H2))) (v H0 G H σ env at0) fun x d G2 H2 x2 r2 => ?_
    refine ev_fz (R' := fun _ => RIt S H) (te := u) (kk := fun y H2 (R : It → Hp → Prop) => ∃ a b xs ys, [x, y] = [V.ref a, V.ref b] ∧ ((SqL S.K H2 a xs ∧ SqL S.K H2 b ys ∧ R (Itz S.K a b) H2) ∨ (SqT S.K H2 a xs ∧ SqT S.K H2 b ys ∧ R (RZ.ItzT S.K a b) H2))) (w H0 G2 H2 σ env (at0.up x2)) fun y d2 G3 H3 x3 r3 => ?_
    have r2' := r2.up x3.g
    clear r2
    cases d <;> first | exact EvG.stk | skip
    · cases d2 <;> first | exact EvG.stk | skip
      rename_i xs ys
      obtain ⟨a, vs, rfl, h1, r4⟩ := DR.toLst r2'
      obtain ⟨b, ws, rfl, h5, r5⟩ := DR.toLst r3
      refine EvG.now x3.gh fun Q q => ⟨a, b, vs, ws, rfl, .inl ⟨SqL.of (x3.gh.xt.lst h1), SqL.of (x3.gh.xt.lst h5), q _ (rit_pair (walk_zip (n := min vs.length ws.length) rfl) (by rw [zip_len, r4.length, r5.length]) (fun H' z => ⟨SqL.of (z.lst h1), SqL.of (z.lst h5)⟩) fun i x u v ei eu ev => ?_)⟩⟩
      obtain ⟨d, e, hd, he, rfl⟩ := zip_get xs ys i x ei
      obtain ⟨v1, hv1, rv1⟩ := r4.get hd
      obtain ⟨v2, hv2, rv2⟩ := r5.get he
      rw [hv1] at eu
      rw [hv2] at ev
      cases eu
      cases ev
      exact ⟨d, e, rfl, rv1, rv2⟩
    · cases d2 <;> first | exact EvG.stk | skip
      rename_i xs ys
      obtain ⟨a, vs, rfl, h1, r4⟩ := DR.toTup r2'
      obtain ⟨b, ws, rfl, h5, r5⟩ := DR.toTup r3
      refine EvG.now x3.gh fun Q q => ⟨a, b, vs, ws, rfl, .inr ⟨x3.gh.xt.sqT h1, x3.gh.xt.sqT h5, q _ (rit_pair (walk_zipT (n := min vs.length ws.length) rfl) (by rw [zip_len, r4.length, r5.length]) (fun H' z => ⟨z.sqT h1, z.sqT h5⟩) fun i x u v ei eu ev => ?_)⟩⟩
      obtain ⟨d, e, hd, he, rfl⟩ := zip_get xs ys i x ei
      obtain ⟨v1, hv1, rv1⟩ := r4.get hd
      obtain ⟨v2, hv2, rv2⟩ := r5.get he
      rw [hv1] at eu
      rw [hv2] at ev
      cases eu
      cases ev
      exact ⟨d, e, rfl, rv1, rv2⟩
end
end PD
/-! comprehensions -/
namespace PD
open PySem PySem.Spec PyProof.Rows L2
/-- one turn of a comprehension: what it gives -/
def lcOne (g : GF) (t : TF) (el : EF) (env : List L) (x : D) : M (List D) := match g x env with
  | .ok env2 => (match t env2 with
    | .ok true => (match el env2 with
      | .ok l => (match l.fz with
        | .ok y => .ok [y]
        | _ => .stuck)
      | _ => .stuck)
    | .ok false => .ok []
    | _ => .stuck)
  | _ => .stuck
def lcGo (g : GF) (t : TF) (el : EF) (env : List L) : List D → M (List D)
  | [] => .ok []
  | x :: r => match lcOne g t el env x with
    | .ok ys => (match lcGo g t el env r with
      | .ok zs => .ok (ys ++ zs)
      | _ => .stuck)
    | _ => .stuck
def wipeE (env : List L) : List Nat → List L
  | [] => env
  | v :: vs => (wipeE env vs).set v .un
def eLc (own : List Nat) (it : IF) (g : GF) (t : TF) (el : EF) : EF := fun env => (it env).bind fun xs => if xs.length ≤ cap then (match lcGo g t el (wipeE env own) xs with
  | .ok ys => .ok (.fr ys)
  | _ => .stuck) else .stuck
theorem lcGo_append {g : GF} {t : TF} {el : EF} {env : List L} : ∀ {a b : List D} {zs : List D}, lcGo g t el env (a ++ b) = .ok zs → ∃ xs ys, lcGo g t el env a = .ok xs ∧ lcGo g t el env b = .ok ys ∧ zs = xs ++ ys
  | [], b, zs, h => ⟨[], zs, rfl, h, rfl⟩
  | x :: a, b, zs, h => by
    have h' : (match lcOne g t el env x with
      | .ok ys => (match lcGo g t el env (a ++ b) with
        | .ok zs => .ok (ys ++ zs)
        | _ => .stuck)
      | _ => .stuck) = M.ok zs := h
    cases e1 : lcOne g t el env x with
    | stuck => rw [e1] at h'; cases h'
    | ex c => rw [e1] at h'; cases h'
    | ok ys =>
      rw [e1] at h'
      cases e2 : lcGo g t el env (a ++ b) with
      | stuck => rw [e2] at h'; cases h'
      | ex c => rw [e2] at h'; cases h'
      | ok ws =>
        rw [e2] at h'
        obtain ⟨us, vs, h1, h2, h3⟩ := lcGo_append e2
        refine ⟨ys ++ us, vs, ?_, h2, ?_⟩
        · show (match lcOne g t el env x with
            | .ok ys => (match lcGo g t el env a with
              | .ok zs => .ok (ys ++ zs)
              | _ => .stuck)
            | _ => .stuck) = M.ok (ys ++ us)
          rw [e1, h1]
        · have h4 : ys ++ ws = zs := by injection h'
          rw [← h4, h3, List.append_assoc]
theorem lcOne_len {g : GF} {t : TF} {el : EF} {env : List L} {x : D} {ys : List D} (h : lcOne g t el env x = .ok ys) : ys.length ≤ 1 := by
  unfold lcOne at h
  split at h
  · split at h
    · split at h
      · split at h
        · cases h; simp
        · cases h
      · cases h
    · cases h; simp
    · cases h
  · cases h
theorem lcGo_len {g : GF} {t : TF} {el : EF} {env : List L} : ∀ {xs ys : List D}, lcGo g t el env xs = .ok ys → ys.length ≤ xs.length
  | [], ys, h => by cases h; simp
  | x :: r, ys, h => by
    have h' : (match lcOne g t el env x with
      | .ok ys => (match lcGo g t el env r with
        | .ok zs => .ok (ys ++ zs)
        | _ => .stuck)
      | _ => .stuck) = M.ok ys := h
    cases e1 : lcOne g t el env x with
    | stuck => rw [e1] at h'; cases h'
    | ex c => rw [e1] at h'; cases h'
    | ok us =>
      rw [e1] at h'
      cases e2 : lcGo g t el env r with
      | stuck => rw [e2] at h'; cases h'
      | ex c => rw [e2] at h'; cases h'
      | ok ws =>
        rw [e2] at h'
        have h4 : us ++ ws = ys := by injection h'
        have h5 := lcOne_len e1
        have h6 := lcGo_len e2
        rw [← h4, List.length_append, List.length_cons]
        omega
section
variable {S : Sys} {k : Nat} {E : XK} {cc : CC} {sc : SC}
/-- one of the new lists changes -/
theorem Gr.mut {G H G1 H1 : Hp} {p : Addr} {us vs : List V} (x : Gr S G H G1 H1) (hp : H p = none) (hg : G1 p = none) (h1 : H1 p = some (.lst us)) : Gr S G H G1 (upd H1 p (.lst vs)) :=
  ⟨fun b o e n => by
    have hb : b ≠ p := ne_of_none e hp
    rw [upd_ne hb]
    exact x.h b o e n, x.g, fun b o e => by
    have hb : b ≠ p := ne_of_none e hg
    rw [upd_ne hb]
    exact x.gh b o e, x.n, fun q e => by
    by_cases hq : q = p
    · rw [hq]; exact hp
    · rw [upd_ne hq] at e
      exact x.dom q e, fun h => tabs_lst (x.t h) h1⟩
theorem EnvR.wipe {H0 G H : Hp} {σ : L2.St} {env : List L} (h : EnvR S H0 G H σ env) : ∀ vs : List Nat, EnvR S H0 G H (wipe σ vs) (wipeE env vs)
  | [] => h
  | v :: vs => (EnvR.wipe h vs).setU v none
/-- the tests of a comprehension -/
def CTs (S : Sys) (k : Nat) (E : XK) (cc : CC) (sc : SC) (ifs : List Expr) (f : TF) : Prop := ∃ t : TT, (∀ X, CtxOk S k E cc sc X → PTs X ifs t) ∧ ∀ H0 G H σ env, At S H0 G H σ env → EvB S E t σ G H (f env)
theorem cts_nil : CTs S k E cc sc [] tTrue := ⟨tYes, fun X c => pts_nil, fun H0 G H σ env at0 => EvG.now at0.sb fun Q q => q true rfl⟩
theorem cts_one {e : Expr} {f : TF} (h : CT S k E cc sc e f) : CTs S k E cc sc [e] f := by
  obtain ⟨t, p, v⟩ := h
  exact ⟨t, fun X c => pts_one (p X c), v⟩
def blkSC (scope : Scope) (sc : SC) : SC := ⟨relS scope sc.sc, fun x => scope.names.lookup x == some .cell⟩
theorem ctx_blk {X : Cx} {scope : Scope} (c : CtxOk S k E cc sc X) (s : Shared) (H : Hp) (C : Addr) (cl : List (Str × Addr)) (fp : List Addr) : CtxOk S k E0 cc (blkSC scope sc) (X.blk s H scope (compEnvC scope cl C X.env) fp) := by
  refine ⟨c.P, c.w, c.K, c.mg, c.base, c.N, c.nd, c.calm, ?_, rfl, c.room, ?_⟩
  · show relS scope X.env.scope = relS scope sc.sc
    rw [c.scp]
  · have h := passL (X := X.blk s H scope (compEnvC scope cl C X.env) fp)
    rw [← c.P, ← c.w]
    exact h
/-- the parts of a comprehension -/
theorem lc_parts {tg iter elt : Expr} {ifs : List Expr} {scope : Scope} {own : List (Str × Nat)} {sl : List Nat} {it : IF} {g : GF} {t : TF} {el : EF} (hi : CI S k E cc sc tg iter it) (hg : CG S k E0 cc (blkSC scope sc) tg sl g) (hsl : ∀ i ∈ sl, i ∈ own.map (·.2))
    (ht : CTs S k E0 cc (blkSC scope sc) ifs t) (he : CE S k E0 cc (blkSC scope sc) elt el) :
    ∃ (wi : TI) (gt : TG) (tt : TT) (te : TE), (∀ X, CtxOk S k E cc sc X → PI X tg iter wi) ∧ (∀ X, CtxOk S k E cc sc X → ∀ s H C cl fp, PG (X.blk s H scope (compEnvC scope cl C X.env) fp) tg gt) ∧
      (∀ X, CtxOk S k E cc sc X → ∀ s H C cl fp, PTs (X.blk s H scope (compEnvC scope cl C X.env) fp) ifs tt) ∧ (∀ X, CtxOk S k E cc sc X → ∀ s H C cl fp, PE (X.blk s H scope (compEnvC scope cl C X.env) fp) elt te) ∧
      ∀ H0 G H σ env, At S H0 G H σ env → EvW S E (tLc wi gt tt te (own.map (·.2))) σ G H (eLc (own.map (·.2)) it g t el env) := by
  obtain ⟨wi, pw, vw⟩ := hi
  obtain ⟨gt, pg, vg⟩ := hg
  obtain ⟨tt, pt, vt⟩ := ht
  obtain ⟨te, pe, ve⟩ := he
  refine ⟨wi, gt, tt, te, pw, fun X c s H C cl fp => pg _ (ctx_blk c s H C cl fp), fun X c s H C cl fp => pt _ (ctx_blk c s H C cl fp), fun X c s H C cl fp => pe _ (ctx_blk c s H C cl fp), fun H0 G H σ env at0 => ?_⟩
  generalize hvs : own.map (·.2) = vs at hsl
  refine EvG.bind (tq := wi σ H) (k := fun J H1 (Q : VK) => ∀ D, H1 D = none → ∃ W : Nat → Nat → Hp → Prop, (∃ m, W 0 m (upd H1 D (.lst []))) ∧ ∀ i m H, W i m H →
    (J.stop i H ∧ Q (V.ref D) H) ∨ (J.go i H ∧ ∃ Nx : Hp → Prop, (∀ H', Nx H' → ∃ m', m' < m ∧ W (i + 1) m' H') ∧ ∀ x H', J.yld i H x H' → gt x (wipe σ vs) H' fun σ2 H2 => wipe σ2 vs = wipe σ vs ∧ tt σ2 H2 fun b H3 =>
      if b = true then te σ2 H3 fun y H4 => ∃ acc, H4 D = some (.lst acc) ∧ acc.length < sizeLine ∧ Nx (upd H4 D (.lst (acc ++ [y]))) else Nx H3)) (vw H0 G H σ env at0) fun J xs G1 H1 _ x1 r1 => ⟨G1, x1, ?_⟩
  split
  · rename_i hcap
    cases ego : lcGo g t el (wipeE env vs) xs with
    | stuck => exact EvG.stk
    | ex c => exact EvG.stk
    | ok all =>
      obtain ⟨Gd, Y, w, hGd, hY⟩ := r1
      have at1 := at0.up x1
      refine fun Q q D hD => lc_it w (fun i H => ∃ G ys us, Gr S G1 H1 G H ∧ H D = some (.lst us) ∧ G D = none ∧ DRs S.K G us ys ∧ lcGo g t el (wipeE env vs) (xs.take i) = .ok ys) ?_ ?_ ?_ ?_
      · exact ⟨G1, [], [], Gr.new x1.gh hD, upd_same, x1.gh.none hD, .nil, rfl⟩
      · rintro i H' _ ⟨G', ys, us, x, h1, h2, h3, h4⟩
        exact hGd H' (x.g.trans x.gh.xt)
      · rintro i v H' H'' hi ⟨G', ys, us, x, h1, h2, h3, h4⟩ y
        have exi : xs[i]? = some xs[i] := List.getElem?_eq_getElem hi
        obtain ⟨G3, x3, rv⟩ := hY i xs[i] G' H' v H'' exi x.g x.gh y
        have etake : xs.take (i + 1) = xs.take i ++ [xs[i]] := by rw [List.take_add_one, exi]; rfl
        have eall : xs = xs.take (i + 1) ++ xs.drop (i + 1) := (List.take_append_drop _ _).symm
        have ego' := ego
        rw [eall] at ego'
        obtain ⟨as, bs, ea, _, _⟩ := lcGo_append ego'
        have ea0 := ea
        rw [etake] at ea
        obtain ⟨cs, ds, ec, ed, ecd⟩ := lcGo_append ea
        rw [h4] at ec
        have ecs : cs = ys := by injection ec with z; exact z.symm
        subst ecs
        have eone : ∃ ws, lcOne g t el (wipeE env vs) xs[i] = .ok ws ∧ ds = ws := by
          have h' : (match lcOne g t el (wipeE env vs) xs[i] with
            | .ok ys => (match lcGo g t el (wipeE env vs) [] with
              | .ok zs => .ok (ys ++ zs)
              | _ => .stuck)
            | _ => .stuck) = M.ok ds := ed
          cases e1 : lcOne g t el (wipeE env vs) xs[i] with
          | stuck => rw [e1] at h'; cases h'
          | ex c => rw [e1] at h'; cases h'
          | ok ws =>
            rw [e1] at h'
            refine ⟨ws, rfl, ?_⟩
            have h5 : ws ++ [] = ds := by injection h'
            rw [← h5, List.append_nil]
        obtain ⟨ws, e1, rfl⟩ := eone
        have xx := x.trans x3
        have atW : At S H0 G3 H'' (wipe σ vs) (wipeE env vs) := ⟨xx.gh, xx.t at1.tb, (at1.env.wipe vs).up xx⟩
        have hD3 : H'' D = some (.lst us) := x3.h.lst h1
        have gD3 : G3 D = none := x3.n D (fun z => by rw [h1] at z; cases z) h2
        -- the turn
        unfold lcOne at e1
        cases eg : g xs[i] (wipeE env vs) with
        | stuck => rw [eg] at e1; cases e1
        | ex c => rw [eg] at e1; cases e1
        | ok env2 =>
          rw [eg] at e1
          simp only [] at e1
          refine vg H0 G3 H'' _ _ v _ env2 atW rv eg _ fun σ2 r2 w2 => ⟨by rw [w2 vs hsl, wipe_idem], ?_⟩
          have at2 : At S H0 G3 H'' σ2 env2 := ⟨xx.gh, xx.t at1.tb, r2⟩
          have ev := vt H0 G3 H'' σ2 env2 at2
          cases et : t env2 with
          | stuck => rw [et] at e1; cases e1
          | ex c => rw [et] at e1; cases e1
          | ok b =>
            rw [et] at e1 ev
            refine ev _ fun b' G4 H4 x4 eb => ?_
            have eb : b' = b := eb
            subst eb
            have at4 := at2.up x4
            have hD4 : H4 D = some (.lst us) := x4.h.lst hD3
            have gD4 : G4 D = none := x4.n D (fun z => by rw [hD3] at z; cases z) gD3
            cases b' with
            | false =>
              have ew : ds = [] := by injection e1 with z; exact z.symm
              subst ew
              exact ⟨G4, cs, us, xx.trans x4, hD4, gD4, (h3.up x3.g).up x4.g, by rw [ea0, ecd, List.append_nil]⟩
            | true =>
              show te σ2 H4 _
              have e1' : (match el env2 with
                | .ok l => (match l.fz with
                  | .ok y => .ok [y]
                  | _ => .stuck)
                | _ => .stuck) = M.ok ds := e1
              have ev := ve H0 G4 H4 σ2 env2 at4
              cases ee : el env2 with
              | stuck => rw [ee] at e1'; cases e1'
              | ex c => rw [ee] at e1'; cases e1'
              | ok l =>
                rw [ee] at e1' ev
                cases ef : l.fz with
                | stuck => simp only [ef] at e1'; cases e1'
                | ex c => simp only [ef] at e1'; cases e1'
                | ok yd =>
                  simp only [ef] at e1'
                  have ew : ds = [yd] := by injection e1' with z; exact z.symm
                  subst ew
                  refine ev _ fun yv G5 H5 x5 ry => ?_
                  obtain ⟨G6, x6, ry6⟩ := ry.fz x5 ef
                  have hD5 : H5 D = some (.lst us) := x6.h.lst hD4
                  have gD5 : G6 D = none := x6.n D (fun z => by rw [hD4] at z; cases z) gD4
                  have hlen : us.length < sizeLine := by
                    have h5 := lcGo_len h4
                    rw [h3.length]
                    rw [List.length_take] at h5
                    exact cap_lt (by omega)
                  exact ⟨us, hD5, hlen, G6, cs ++ [yd], us ++ [yv], ((xx.trans x4).trans x6).mut hD gD5 hD5, upd_same, gD5, (((h3.up x3.g).up x4.g).up x6.g).append (.cons ry6 .nil), by rw [ea0, ecd]⟩
      · rintro H' ⟨G', ys, us, x, h1, h2, h3, h4⟩
        rw [List.take_length, ego] at h4
        have e : ys = all := by injection h4 with z; exact z.symm
        subst e
        exact q _ G' H' x ⟨D, us, rfl, x1.dom D hD, h2, h1, h3⟩
  · exact EvG.stk
def notSet : Expr → Bool
  | .Set _ _ _ => false
  | _ => true
theorem notSet_ok {e : Expr} {env : Env} (h : notSet e = true) : ∀ x, foldedSetIterable e env x = pure x := by
  intro x
  cases e <;> first | rfl | cases h
theorem ce_lc {tg iter elt : Expr} {ifs : List Expr} {scope : Scope} {own : List (Str × Nat)} {sl : List Nat} {it : IF} {g : GF} {t : TF} {el : EF} {pos : Pos} (hns : notSet iter = true) (hok : blkC cc.N sc.sc scope own = true) (hi : CI S k E cc sc tg iter it) (hg : CG S k E0 cc (blkSC scope sc) tg sl g) (hsl : ∀ i ∈ sl, i ∈ own.map (·.2))
    (ht : CTs S k E0 cc (blkSC scope sc) ifs t) (he : CE S k E0 cc (blkSC scope sc) elt el) : CE S k E cc sc (.ListComp elt [⟨tg, iter, ifs, 0⟩] scope pos) (eLc (own.map (·.2)) it g t el) := by
  obtain ⟨wi, gt, tt, te, h1, h2, h3, h4, h5⟩ := lc_parts hi hg hsl ht he
  exact ⟨_, fun X c => pe_lc c.calm (by rw [c.N]; exact c.nd) (h1 X c) (by rw [c.N, c.scp]; exact blkOk_by hok) (h2 X c) (h3 X c) (h4 X c) (notSet_ok hns), h5⟩
end
end PD
/-! statements -/
namespace PD
open PySem PySem.Spec PyProof.Rows L2
inductive R where
  | nx (env : List L) | rt (d : D) | bk (env : List L) | ct (env : List L)
abbrev SF := List L → M R
section
variable (S : Sys) (E : XK) (G0 H0 : Hp)
structure StA (G H : Hp) (σ : L2.St) (env : List L) : Prop where
  gr : Gr S G0 H0 G H
  tb : LamX.Tabs S.T H0
  env : EnvR S H0 G H σ env
def EvS (t : TS) (σ : L2.St) (H : Hp) : M R → Prop
  | .stuck => True
  | .ex c => ∀ D : Ends, (∀ G2 H2, Gr S G0 H0 G2 H2 → E (.ref (S.ca c)) none H2) → t D σ H
  | .ok (.nx env') => ∀ D : Ends, (∀ σ' G' H', StA S G0 H0 G' H' σ' env' → D.nx σ' H') → t D σ H
  | .ok (.rt d) => ∀ D : Ends, (∀ v G' H', Gr S G0 H0 G' H' → DR S.K G' v d → D.rt v H') → t D σ H
  | .ok (.bk env') => ∀ D : Ends, (∀ σ' G' H', StA S G0 H0 G' H' σ' env' → D.bk σ' H') → t D σ H
  | .ok (.ct env') => ∀ D : Ends, (∀ σ' G' H', StA S G0 H0 G' H' σ' env' → D.ct σ' H') → t D σ H
end
theorem StA.at {S : Sys} {G0 H0 G H : Hp} {σ : L2.St} {env : List L} (a : StA S G0 H0 G H σ env) : At S H0 G H σ env := ⟨a.gr.gh, a.gr.t a.tb, a.env⟩
theorem StA.up {S : Sys} {G0 H0 G H G1 H1 : Hp} {σ : L2.St} {env : List L} (a : StA S G0 H0 G H σ env) (x : Gr S G H G1 H1) : StA S G0 H0 G1 H1 σ env := ⟨a.gr.trans x, a.tb, a.env.up x⟩
/-- a body's context -/
structure CtxS (S : Sys) (k : Nat) (E : XK) (cc : CC) (sc : SC) (X : Cx) : Prop extends CtxOk S k E cc sc X where
  tk : Takes X (fun cls d _ H => E cls d H)
  po : PassesOwn (model X.prog X.w) X.A X.env X.xe
section
variable (S : Sys) (k : Nat) (E : XK) (cc : CC) (sc : SC)
def CS (st : Stmt) (f : SF) : Prop := ∃ t : TS, (∀ X, CtxS S k E cc sc X → PS X st t) ∧ ∀ G0 H0 G H σ env, StA S G0 H0 G H σ env → EvS S E G0 H0 t σ H (f env)
def CSs (st : List Stmt) (f : SF) : Prop := ∃ t : TS, (∀ X, CtxS S k E cc sc X → PSs X st t) ∧ ∀ G0 H0 G H σ env, StA S G0 H0 G H σ env → EvS S E G0 H0 t σ H (f env)
end
/-! ### freezing -/
def frz1 (env : List L) (i : Nat) : List L := match env[i]? with
  | some (.own xs) => env.set i (.d (.list xs))
  | _ => env
def fzE : List Nat → List L → List L
  | [], env => env
  | i :: is, env => fzE is (frz1 env i)
section
variable {S : Sys} {k : Nat} {E : XK} {cc : CC} {sc : SC} {G0 H0 : Hp}
theorem StA.frz1 {G H : Hp} {σ : L2.St} {env : List L} (a : StA S G0 H0 G H σ env) (i : Nat) : ∃ G', StA S G0 H0 G' H σ (frz1 env i) := by
  unfold PD.frz1
  split
  · rename_i xs e
    obtain ⟨p, vs, h1, z, g, hp, r, _, c⟩ := a.env.write e
    exact ⟨_, a.gr.frz z g hp (fun ps q => by cases q), a.tb, c⟩
  · exact ⟨G, a⟩
theorem StA.fz {H : Hp} {σ : L2.St} : ∀ (is : List Nat) {G : Hp} {env : List L}, StA S G0 H0 G H σ env → ∃ G', StA S G0 H0 G' H σ (fzE is env)
  | [], G, env, a => ⟨G, a⟩
  | i :: is, G, env, a => by
    obtain ⟨G1, a1⟩ := a.frz1 i
    exact StA.fz is a1
/-! ### one after another -/
def sNil : SF := fun env => .ok (.nx env)
def sSeq (f g : SF) : SF := fun env => match f env with
  | .ok (.nx env2) => g env2
  | r => r
theorem css_nil : CSs S k E cc sc [] sNil := ⟨tNext, fun X c => pss_nil, fun G0 H0 G H σ env a D q => q σ G H a⟩
theorem ev_seq {t u : TS} {σ : L2.St} {H : Hp} {r : M R} {g : SF} (h : EvS S E G0 H0 t σ H r) (h2 : ∀ G H σ env, StA S G0 H0 G H σ env → EvS S E G0 H0 u σ H (g env)) :
    EvS S E G0 H0 (tSeq t u) σ H (match (generalizing := false) r with
      | .ok (.nx env2) => g env2
      | r => r) := by
  cases r with
  | stuck => exact True.intro
  | ex c => exact fun D q => h _ q
  | ok r =>
    cases r with
    | nx env' =>
      show EvS S E G0 H0 (tSeq t u) σ H (g env')
      cases e : g env' with
      | stuck => exact True.intro
      | ex c =>
        refine fun D q => h _ fun σ' G' H' a => ?_
        have h3 := h2 G' H' σ' env' a
        rw [e] at h3
        exact h3 D q
      | ok r2 =>
        cases r2 with
        | nx e2 =>
          refine fun D q => h _ fun σ' G' H' a => ?_
          have h3 := h2 G' H' σ' env' a
          rw [e] at h3
          exact h3 D q
        | rt d =>
          refine fun D q => h _ fun σ' G' H' a => ?_
          have h3 := h2 G' H' σ' env' a
          rw [e] at h3
          exact h3 D q
        | bk e2 =>
          refine fun D q => h _ fun σ' G' H' a => ?_
          have h3 := h2 G' H' σ' env' a
          rw [e] at h3
          exact h3 D q
        | ct e2 =>
          refine fun D q => h _ fun σ' G' H' a => ?_
          have h3 := h2 G' H' σ' env' a
          rw [e] at h3
          exact h3 D q
    | rt d => exact fun D q => h _ q
    | bk env' => exact fun D q => h _ q
    | ct env' => exact fun D q => h _ q
theorem css_cons {st : Stmt} {rest : List Stmt} {f g : SF} (h : CS S k E cc sc st f) (hr : CSs S k E cc sc rest g) : CSs S k E cc sc (st :: rest) (sSeq f g) := by
  obtain ⟨t, p, v⟩ := h
  obtain ⟨u, q, w⟩ := hr
  refine ⟨tSeq t u, fun X c => pss_cons (p X c) (q X c), fun G0 H0 G H σ env a => ?_⟩
  exact ev_seq (v G0 H0 G H σ env a) fun G H σ env a => w G0 H0 G H σ env a
theorem css_one {st : Stmt} {f : SF} (h : CS S k E cc sc st f) : CSs S k E cc sc [st] f := by
  obtain ⟨t, p, v⟩ := h
  exact ⟨t, fun X c => pss_one (p X c), v⟩
/-- from an expression's run on -/
theorem ev_exp {te : TE} {kk : Ends → V → Hp → Prop} {σ : L2.St} {G H : Hp} {env : List L} {r : M L} {g : L → M R} (a : StA S G0 H0 G H σ env) (h : EvW S E te σ G H r)
    (hk : ∀ x l G2 H2, Gr S G H G2 H2 → WR S H G2 H2 x l → EvS S E G0 H0 (fun D _ H2 => kk D x H2) σ H2 (g l)) : EvS S E G0 H0 (fun D σ H => te σ H fun x H1 => kk D x H1) σ H (r.bind g) := by
  cases r with
  | stuck => exact True.intro
  | ex c => exact fun D q => h _ fun G2 H2 x => q G2 H2 (a.gr.trans x)
  | ok l =>
    show EvS S E G0 H0 _ σ H (g l)
    cases e : g l with
    | stuck => exact True.intro
    | ex c =>
      refine fun D q => h _ fun x G2 H2 gr rx => ?_
      have h2 := hk x l G2 H2 gr rx
      rw [e] at h2
      exact h2 D q
    | ok r2 =>
      cases r2 with
      | nx e2 =>
        refine fun D q => h _ fun x G2 H2 gr rx => ?_
        have h2 := hk x l G2 H2 gr rx
        rw [e] at h2
        exact h2 D q
      | rt e2 =>
        refine fun D q => h _ fun x G2 H2 gr rx => ?_
        have h2 := hk x l G2 H2 gr rx
        rw [e] at h2
        exact h2 D q
      | bk e2 =>
        refine fun D q => h _ fun x G2 H2 gr rx => ?_
        have h2 := hk x l G2 H2 gr rx
        rw [e] at h2
        exact h2 D q
      | ct e2 =>
        refine fun D q => h _ fun x G2 H2 gr rx => ?_
        have h2 := hk x l G2 H2 gr rx
        rw [e] at h2
        exact h2 D q
/-! ### expression statements, assignments, return -/
def notComp : Expr → Bool
  | .ListComp _ _ _ _ => false
  | .SetComp _ _ _ _ => false
  | .DictComp _ _ _ _ _ => false
  | _ => true
theorem notComp_ok {e : Expr} {o : Option Expr} {n : Nat} {env : Env} (h : notComp e = true) : swapsWith e o n env = pure false := by
  cases e <;> first | rfl | cases h
def sExp (is : List Nat) (f : EF) : SF := fun env => (f (fzE is env)).bind fun _ => .ok (.nx (fzE is env))
theorem cs_exp {e : Expr} {f : EF} {pos : Pos} (is : List Nat) (hc : notComp e = true) (h : CE S k E cc sc e f) : CS S k E cc sc (.Expr e pos) (sExp is f) := by
  obtain ⟨t, p, v⟩ := h
  refine ⟨tDrop t, fun X c => ps_expr (p X c.toCtxOk) (notComp_ok hc), fun G0 H0 G H σ env a0 => ?_⟩
  obtain ⟨G', a⟩ := a0.fz is
  exact ev_exp (kk := fun D _ H1 => D.nx σ H1) a (v H0 G' H σ _ a.at) fun x l G2 H2 gr rx D q => q σ G2 H2 (a.up gr)
def putL (i : Nat) (env : List L) : L → M R
  | .d x => .ok (.nx (env.set i (.d x)))
  | .fr xs => .ok (.nx (env.set i (.own xs)))
  | _ => .stuck
def sAsg (is : List Nat) (i : Nat) (f : EF) : SF := fun env => (f (fzE is env)).bind (putL i (fzE is env))
theorem put_ok {i : Nat} {σ : L2.St} {G H G2 H2 : Hp} {env : List L} {x : V} {l : L} (a : StA S G0 H0 G H σ env) (gr : Gr S G H G2 H2) (rx : WR S H G2 H2 x l) {t : TS} (ht : ∀ D : Ends, D.nx (σ.set i (some x)) H2 → t D σ H2) :
    EvS S E G0 H0 t σ H2 (putL i env l) := by
  have a2 := a.up gr
  cases l with
  | un => exact True.intro
  | d y => exact fun D q => ht D (q _ G2 H2 ⟨a2.gr, a.tb, a2.env.setD i rx⟩)
  | own xs => exact True.intro
  | fr xs =>
    obtain ⟨p, us, rfl, hp, hg, h2, r⟩ := rx
    refine fun D q => ht D (q _ G2 H2 ⟨a2.gr, a.tb, a2.env.setN i (a.gr.dom p hp) hg h2 r fun j sv l as e1 e2 e3 => ?_⟩)
    obtain ⟨sv', as', f1, f2⟩ := a.env.get e2
    rw [e1] at f1
    cases f1
    cases l with
    | un =>
      have z : as = [] := e3
      subst z
      simp
    | d y =>
      obtain ⟨rfl, _⟩ := e3
      simp
    | own ys =>
      obtain ⟨q1, w1, rfl, z1, _⟩ := e3
      obtain ⟨q2, w2, _, z2, _, _, z3, _⟩ := f2
      rw [z1] at z2
      cases z2
      intro hm
      have : p = q1 := by simpa using hm
      subst this
      rw [hp] at z3
      cases z3
    | fr ys => exact e3.elim
theorem cs_asg {x : Str} {i : Nat} {e : Expr} {f : EF} {pos pos' : Pos} (is : List Nat) (hi : cc.N[i]? = some x) (hl : locB sc x = true) (hc : notComp e = true) (h : CE S k E cc sc e f) : CS S k E cc sc (.Assign [.Name x pos'] e pos) (sAsg is i f) := by
  obtain ⟨t, p, v⟩ := h
  obtain ⟨h1, h2⟩ := locB_ok hl
  refine ⟨tAsg t (gName i), fun X c => ps_set (by rw [c.N]; exact c.nd) (by rw [c.N]; exact hi) (by rw [c.scp]; exact h1) (p X c.toCtxOk) (notComp_ok hc) (by rw [c.fn, c.scp]; exact h2), fun G0 H0 G H σ env a0 => ?_⟩
  obtain ⟨G', a⟩ := a0.fz is
  exact ev_exp (kk := fun D x H1 => D.nx (σ.set i (some x)) H1) a (v H0 G' H σ _ a.at) fun x l G2 H2 gr rx => put_ok (t := fun D _ H2 => D.nx (σ.set i (some x)) H2) a gr rx fun D q => q
/-- x = [..] -/
def swB (sc : SC) (x : Str) (own : Scope) (l1 l2 : Nat) : Bool := decide (sc.sc.kind = .function) && (decide (sc.sc.names.lookup x = some .local) && (l1 == l2 && !(own.names.any fun (n, k) => n == x && (k == .local || k == .cell))))
theorem cs_asgLc {x : Str} {i : Nat} {tg iter elt : Expr} {ifs : List Expr} {scope : Scope} {own : List (Str × Nat)} {sl : List Nat} {it : IF} {g : GF} {tf : TF} {el : EF} {pos pos' spos : Pos} (is : List Nat) (hi : cc.N[i]? = some x) (hl : locB sc x = true) (hns : notSet iter = true)
    (hok : blkC cc.N sc.sc scope own = true) (hI : CI S k E cc sc tg iter it) (hg : CG S k E0 cc (blkSC scope sc) tg sl g) (hsl : ∀ i ∈ sl, i ∈ own.map (·.2)) (ht : CTs S k E0 cc (blkSC scope sc) ifs tf) (he : CE S k E0 cc (blkSC scope sc) elt el) :
    CS S k E cc sc (.Assign [.Name x pos'] (.ListComp elt [⟨tg, iter, ifs, 0⟩] scope pos) spos) (sAsg is i (eLc (own.map (·.2)) it g tf el)) := by
  obtain ⟨wi, gt, tt, te, h1, h2, h3, h4, h5⟩ := lc_parts hI hg hsl ht he
  obtain ⟨l1, l2⟩ := locB_ok hl
  refine ⟨tAsg (tLc wi gt tt te (own.map (·.2))) (gName i), fun X c => ?_, fun G0 H0 G H σ env a0 => ?_⟩
  · have c0 := c.toCtxOk
    have sw : swapsWith (.ListComp elt [⟨tg, iter, ifs, 0⟩] scope pos) (some (.Name x pos')) spos.line X.env = pure (X.env.blockKind == .function && X.env.kindOf x == some .local && pos'.line == pos.line && !(scope.names.any fun (n, k) => n == x && (k == .local || k == .cell))) := rfl
    by_cases hb : (X.env.blockKind == .function && X.env.kindOf x == some .local && pos'.line == pos.line && !(scope.names.any fun (n, k) => n == x && (k == .local || k == .cell))) = true
    · rw [hb] at sw
      have hloc : X.env.scope.names.lookup x = some .local := by
        simp only [Bool.and_eq_true, beq_iff_eq] at hb
        exact hb.1.1.2
      exact ps_setLc c.calm (by rw [c.N]; exact c.nd) (by rw [c.N]; exact hi) hloc sw (h1 X c0) (by rw [c.N, c.scp]; exact blkOk_by hok) (h2 X c0) (h3 X c0) (h4 X c0) (notSet_ok hns)
    · have hb' : (X.env.blockKind == .function && X.env.kindOf x == some .local && pos'.line == pos.line && !(scope.names.any fun (n, k) => n == x && (k == .local || k == .cell))) = false := Bool.eq_false_iff.mpr hb
      rw [hb'] at sw
      exact ps_set (by rw [c.N]; exact c.nd) (by rw [c.N]; exact hi) (by rw [c.scp]; exact l1) (pe_lc c.calm (by rw [c.N]; exact c.nd) (h1 X c0) (by rw [c.N, c.scp]; exact blkOk_by hok) (h2 X c0) (h3 X c0) (h4 X c0) (notSet_ok hns)) sw (by rw [c.fn, c.scp]; exact l2)
  · obtain ⟨G', a⟩ := a0.fz is
    exact ev_exp (kk := fun D x H1 => D.nx (σ.set i (some x)) H1) a (h5 H0 G' H σ _ a.at) fun x l G2 H2 gr rx => put_ok (t := fun D _ H2 => D.nx (σ.set i (some x)) H2) a gr rx fun D q => q
def sRet (is : List Nat) (f : EF) : SF := fun env => (f (fzE is env)).bind fun l => l.fz.bind fun d => .ok (.rt d)
theorem cs_ret {e : Expr} {f : EF} {pos : Pos} (is : List Nat) (h : CE S k E cc sc e f) : CS S k E cc sc (.Return (some e) pos) (sRet is f) := by
  obtain ⟨t, p, v⟩ := h
  refine ⟨tRet t, fun X c => ps_ret (p X c.toCtxOk), fun G0 H0 G H σ env a0 => ?_⟩
  obtain ⟨G', a⟩ := a0.fz is
  refine ev_exp (kk := fun D x H1 => D.rt x H1) a (v H0 G' H σ _ a.at) fun x l G2 H2 gr rx => ?_
  cases e1 : l.fz with
  | stuck => exact True.intro
  | ex c => exact absurd e1 fun z => by cases l <;> cases z
  | ok d =>
    obtain ⟨G3, gr3, r3⟩ := rx.fz gr e1
    exact fun D q => q x G3 H2 (a.gr.trans gr3) r3
def sRetN : SF := fun _ => .ok (.rt .none)
theorem cs_retN {pos : Pos} : CS S k E cc sc (.Return none pos) sRetN := ⟨tRetN, fun X c => ps_retN, fun G0 H0 G H σ env a D q => q _ G H a.gr .non⟩
theorem cs_pass {pos : Pos} : CS S k E cc sc (.Pass pos) sNil := ⟨tNext, fun X c => ps_pass, fun G0 H0 G H σ env a D q => q σ G H a⟩
def sCt : SF := fun env => .ok (.ct env)
theorem cs_continue {pos : Pos} : CS S k E cc sc (.Continue pos) sCt := ⟨tCont, fun X c => ps_continue, fun G0 H0 G H σ env a D q => q σ G H a⟩
def sBk : SF := fun env => .ok (.bk env)
theorem cs_break {pos : Pos} : CS S k E cc sc (.Break pos) sBk := ⟨tBreak, fun X c => ps_break, fun G0 H0 G H σ env a D q => q σ G H a⟩
/-! a, b = e, the one tuple taken apart -/
def sUnp (is : List Nat) (g : GF) (f : EF) : SF := fun env => (f (fzE is env)).bind fun l => l.fz.bind fun d => match g d (fzE is env) with
  | .ok env2 => .ok (.nx env2)
  | _ => .stuck
def notTup : Expr → Bool
  | .Tuple _ _ _ => false
  | .List _ _ => false
  | _ => true
def isTupE : Expr → Bool
  | .Tuple _ _ _ => true
  | _ => false
theorem swapsTup {ts : List Expr} {n : Nat} {p : Pos} {e : Expr} {l : Nat} {env : Env} : swapsWithSole [.Tuple ts n p] e l env = pure false := by
  cases e <;> rfl
theorem swappedTup {ts : List Expr} {n : Nat} {p : Pos} {e : Expr} {env : Env} (h : notTup e = true) : swappedStores [.Tuple ts n p] e env = pure none := by
  cases e <;> first | rfl | cases h
theorem cs_unp {ts : List Expr} {n : Nat} {tp : Pos} {e : Expr} {sl : List Nat} {g : GF} {f : EF} {pos : Pos} (is : List Nat) (hw : ∀ X, CtxS S k E cc sc X → swappedStores [.Tuple ts n tp] e X.env = pure none) (hg : CG S k E cc sc (.Tuple ts n tp) sl g) (h : CE S k E cc sc e f) :
    CS S k E cc sc (.Assign [.Tuple ts n tp] e pos) (sUnp is g f) := by
  obtain ⟨t, p, v⟩ := h
  obtain ⟨gt, pg, vg⟩ := hg
  refine ⟨tAsg t gt, fun X c => ps_asg (p X c.toCtxOk) (pg X c.toCtxOk) swapsTup (hw X c) rfl, fun G0 H0 G H σ env a0 => ?_⟩
  obtain ⟨G', a⟩ := a0.fz is
  refine ev_exp (kk := fun D x H1 => gt x σ H1 D.nx) a (v H0 G' H σ _ a.at) fun x l G2 H2 gr rx => ?_
  cases e1 : l.fz with
  | stuck => exact True.intro
  | ex c => exact absurd e1 fun z => by cases l <;> cases z
  | ok d =>
    obtain ⟨G3, gr3, r3⟩ := rx.fz gr e1
    have a3 := a.up gr3
    show EvS S E G0 H0 _ σ H2 (match g d (fzE is env) with
      | .ok env2 => .ok (.nx env2)
      | _ => .stuck)
    cases e2 : g d (fzE is env) with
    | stuck => exact True.intro
    | ex c => exact True.intro
    | ok env2 => exact fun D q => vg H0 G3 H2 σ _ x d env2 a3.at r3 e2 _ fun σ' r' _ => q σ' G3 H2 ⟨a3.gr, a.tb, r'⟩
/-! a, b = e1, e2 with local names -/
def sPar (is : List Nat) (i j : Nat) (f g : EF) : SF := fun env => (f (fzE is env)).bind fun a => (g (fzE is env)).bind fun b => match putL i (fzE is env) a with
  | .ok (.nx env2) => putL j env2 b
  | _ => .stuck
end
end PD
/-! statements, further -/
namespace PD
open PySem PySem.Spec PyProof.Rows L2
section
variable {S : Sys} {k : Nat} {E : XK} {cc : CC} {sc : SC} {G0 H0 : Hp}
/-- the addresses that slots own are known in Hs, but one -/
def Kn (S : Sys) (H0 G H : Hp) (σ : L2.St) (env : List L) (P : Addr → Prop) : Prop := ∀ (j : Nat) sv l as, σ[j]? = some sv → env[j]? = some l → SR S H0 G H sv l as → ∀ q ∈ as, P q
theorem sr_as {H0 H0' G G' H H' : Hp} {sv : Option V} {l : L} {as as' : List Addr} (h : SR S H0 G H sv l as) (h' : SR S H0' G' H' sv l as') : as = as' := by
  cases l with
  | un => exact (show as = [] from h).trans (show as' = [] from h').symm
  | d y => exact h.1.trans h'.1.symm
  | own ys =>
    obtain ⟨q1, w1, rfl, z1, _⟩ := h
    obtain ⟨q2, w2, rfl, z2, _⟩ := h'
    rw [z1] at z2
    cases z2
    rfl
  | fr ys => exact h.elim
theorem kn_of {G H G2 H2 : Hp} {σ : L2.St} {env : List L} (e : EnvR S H0 G H σ env) : Kn S H0 G2 H2 σ env fun q => H q ≠ none := fun j sv l as e1 e2 e3 q hq => by
  obtain ⟨sv', as', f1, f2⟩ := e.get e2
  rw [e1] at f1
  cases f1
  rw [sr_as e3 f2] at hq
  obtain ⟨_, _, xs, hx⟩ := f2.known hq
  rw [hx]
  intro z
  cases z
theorem setL {i : Nat} {Hs G H : Hp} {σ : L2.St} {env env' : List L} {x : V} {l : L} {P : Addr → Prop} (e : EnvR S H0 G H σ env) (kn : Kn S H0 G H σ env P) (hp : ∀ q, Hs q = none → ¬ P q) (h0 : ∀ q, Hs q = none → H0 q = none) (r : WR S Hs G H x l) (ep : putL i env l = .ok (.nx env')) :
    EnvR S H0 G H (σ.set i (some x)) env' ∧ Kn S H0 G H (σ.set i (some x)) env' fun q => P q ∨ (x = .ref q ∧ ∃ ys, l = .fr ys) := by
  have knD : ∀ y, Kn S H0 G H (σ.set i (some x)) (env.set i (.d y)) fun q => P q ∨ (x = .ref q ∧ ∃ ys, l = .fr ys) := fun y j sv l as e1 e2 e3 q hq => by
    by_cases hj : i = j
    · subst hj
      by_cases hl : i < env.length
      · rw [List.getElem?_set_self hl] at e2
        cases e2
        obtain ⟨rfl, _⟩ := e3
        cases hq
      · rw [List.getElem?_eq_none (by simpa using hl)] at e2
        cases e2
    · rw [List.getElem?_set_ne hj] at e1 e2
      exact .inl (kn j sv l as e1 e2 e3 q hq)
  cases l with
  | un => cases ep
  | d y =>
    cases ep
    exact ⟨e.setD i r, knD y⟩
  | own xs => cases ep
  | fr xs =>
    cases ep
    obtain ⟨p, us, rfl, hs, hg, h2, rr⟩ := r
    refine ⟨e.setN i (h0 p hs) hg h2 rr fun j sv l as e1 e2 e3 hm => hp p hs (kn j sv l as e1 e2 e3 p hm), fun j sv l as e1 e2 e3 q hq => ?_⟩
    by_cases hj : i = j
    · subst hj
      by_cases hl : i < env.length
      · rw [List.getElem?_set_self hl] at e2
        cases e2
        obtain ⟨p2, w2, rfl, z2, _⟩ := e3
        have hσ : i < σ.length := by rw [e.len]; exact hl
        rw [List.getElem?_set_self hσ] at e1
        have : q = p2 := by simpa using hq
        subst this
        cases e1
        exact .inr ⟨Option.some.inj z2, _, rfl⟩
      · rw [List.getElem?_eq_none (by simpa using hl)] at e2
        cases e2
    · rw [List.getElem?_set_ne hj] at e1 e2
      exact .inl (kn j sv l as e1 e2 e3 q hq)
theorem putL_ex {i : Nat} {env : List L} {l : L} {c : Str} : putL i env l ≠ .ex c := fun z => by
  unfold putL at z
  split at z <;> cases z
theorem putL_nx {i : Nat} {env : List L} {l : L} {r : R} (h : putL i env l = .ok r) : ∃ e, r = .nx e := by
  unfold putL at h
  split at h <;> cases h <;> exact ⟨_, rfl⟩
theorem cs_par {x y : Str} {i j : Nat} {a b : Expr} {f g : EF} {px py pt pos : Pos} {kt k2 : Nat} {pt2 : Pos} (is : List Nat) (hi : cc.N[i]? = some x) (hj : cc.N[j]? = some y) (hij : i ≠ j) (hx : sc.sc.names.lookup x = some .local) (hy : sc.sc.names.lookup y = some .local) (hsa : notStar a = true) (hsb : notStar b = true)
    (hw : ∀ X, CtxS S k E cc sc X → swappedStores [.Tuple [.Name x px, .Name y py] kt pt] (.Tuple [a, b] k2 pt2) X.env = pure (some [x, y])) (ha : CE S k E cc sc a f) (hb : CE S k E cc sc b g) :
    CS S k E cc sc (.Assign [.Tuple [.Name x px, .Name y py] kt pt] (.Tuple [a, b] k2 pt2) pos) (sPar is i j f g) := by
  obtain ⟨t, p, v⟩ := ha
  obtain ⟨u, q, w⟩ := hb
  refine ⟨tPar i j (tCons t (tCons u tNil)), fun X c => ps_par c.calm (by rw [c.N]; exact c.nd) (by rw [c.N]; exact hi) (by rw [c.N]; exact hj) hij (by rw [c.scp]; exact hx) (by rw [c.scp]; exact hy) (pa_cons (p X c.toCtxOk) (pa_cons (q X c.toCtxOk) pa_nil (star_cons hsb)) (star_cons hsa)) (hw X c) swapsTup, fun G0 H0 G H σ env a0 => ?_⟩
  obtain ⟨G', a1⟩ := a0.fz is
  refine ev_exp (kk := fun D x H1 => u σ H1 fun y H2 => ∃ v w, [x, y] = [v, w] ∧ D.nx ((σ.set i (some v)).set j (some w)) H2) a1 (v H0 G' H σ _ a1.at) fun x l G2 H2 gr rx => ?_
  refine ev_exp (kk := fun D y H2 => ∃ v w, [x, y] = [v, w] ∧ D.nx ((σ.set i (some v)).set j (some w)) H2) (a1.up gr) (w H0 G2 H2 σ _ (a1.up gr).at) fun y l2 G3 H3 gr3 ry => ?_
  have a3 := (a1.up gr).up gr3
  cases e1 : putL i (fzE is env) l with
  | stuck => exact True.intro
  | ex c => exact absurd e1 putL_ex
  | ok r =>
    obtain ⟨env2, rfl⟩ := putL_nx e1
    obtain ⟨s1, s2⟩ := setL (Hs := H) a3.env (kn_of (G2 := G3) (H2 := H3) a1.env) (fun q hq hn => hn hq) (fun q hq => a1.gr.dom q hq) (rx.up gr3) e1
    show EvS S E G0 H0 _ σ H3 (putL j env2 l2)
    cases e2 : putL j env2 l2 with
    | stuck => exact True.intro
    | ex c => exact absurd e2 putL_ex
    | ok r2 =>
      obtain ⟨env3, rfl⟩ := putL_nx e2
      have kn2 : Kn S H0 G3 H3 (σ.set i (some x)) env2 fun q => H2 q ≠ none := fun j sv l' as e1 e2 e3 q hq => by
        rcases s2 j sv l' as e1 e2 e3 q hq with z | z
        · exact fun h => z (gr.dom q h)
        · obtain ⟨rfl, ys, rfl⟩ := z
          obtain ⟨p, us, e, _, _, hp, _⟩ := rx
          cases e
          rw [hp]
          intro z
          cases z
      obtain ⟨s3, _⟩ := setL (Hs := H2) s1 kn2 (fun q hq hn => hn hq) (fun q hq => (a1.up gr).gr.dom q hq) ry e2
      exact fun D q => ⟨x, y, rfl, q _ G3 H3 ⟨a3.gr, a3.tb, s3⟩⟩
end
end PD
/-! if, for, while, raise, lists that grow -/
namespace PD
open PySem PySem.Spec PyProof.Rows L2
section
variable (S : Sys) (E : XK) (G0 H0 : Hp)
/-- what a run's end is to give -/
def Want (D : Ends) : M R → Prop
  | .stuck => False
  | .ex c => ∀ G2 H2, Gr S G0 H0 G2 H2 → E (.ref (S.ca c)) none H2
  | .ok (.nx env') => ∀ σ' G' H', StA S G0 H0 G' H' σ' env' → D.nx σ' H'
  | .ok (.rt d) => ∀ v G' H', Gr S G0 H0 G' H' → DR S.K G' v d → D.rt v H'
  | .ok (.bk env') => ∀ σ' G' H', StA S G0 H0 G' H' σ' env' → D.bk σ' H'
  | .ok (.ct env') => ∀ σ' G' H', StA S G0 H0 G' H' σ' env' → D.ct σ' H'
end
section
variable {S : Sys} {k : Nat} {E : XK} {cc : CC} {sc : SC} {G0 H0 : Hp}
theorem evS_of {t : TS} {σ : L2.St} {H : Hp} {r : M R} (h : ∀ D, Want S E G0 H0 D r → t D σ H) : EvS S E G0 H0 t σ H r := by
  cases r with
  | stuck => exact True.intro
  | ex c => exact h
  | ok r => cases r <;> exact h
theorem evS_to {t : TS} {σ : L2.St} {H : Hp} {r : M R} (h : EvS S E G0 H0 t σ H r) : ∀ D, Want S E G0 H0 D r → t D σ H := by
  cases r with
  | stuck => exact fun D w => w.elim
  | ex c => exact h
  | ok r => cases r <;> exact h
/-! ### if -/
def sIf (is : List Nat) (t : TF) (f g : SF) : SF := fun env => (t (fzE is env)).bind fun b => if b then f (fzE is env) else g (fzE is env)
theorem cs_if {c : Expr} {a b : List Stmt} {t : TF} {f g : SF} {pos : Pos} (is : List Nat) (hc : CT S k E cc sc c t) (ha : CSs S k E cc sc a f) (hb : CSs S k E cc sc b g) : CS S k E cc sc (.If c a b pos) (sIf is t f g) := by
  obtain ⟨tc, pc, vc⟩ := hc
  obtain ⟨ta, pa, va⟩ := ha
  obtain ⟨tb, pb, vb⟩ := hb
  refine ⟨tIfS tc ta tb, fun X c => ps_if (pc X c.toCtxOk) (pa X c) (pb X c), fun G0 H0 G H σ env a0 => ?_⟩
  obtain ⟨G', a⟩ := a0.fz is
  refine evS_of fun D w => ?_
  have ev := vc H0 G' H σ _ a.at
  have w' : Want S E G0 H0 D ((t (fzE is env)).bind fun b => if b then f (fzE is env) else g (fzE is env)) := w
  cases e : t (fzE is env) with
  | stuck => rw [e] at w'; exact w'.elim
  | ex c =>
    rw [e] at w' ev
    exact ev _ fun G2 H2 x => w' G2 H2 (a.gr.trans x)
  | ok b =>
    rw [e] at w' ev
    refine ev _ fun b' G2 H2 x eb => ?_
    have eb : b' = b := eb
    subst eb
    cases b' with
    | true => exact evS_to (va G0 H0 G2 H2 σ _ (a.up x)) D w'
    | false => exact evS_to (vb G0 H0 G2 H2 σ _ (a.up x)) D w'
/-! ### for -/
def forGo (g : GF) (body : SF) : List D → List L → M R
  | [], env => .ok (.nx env)
  | x :: r, env => match g x env with
    | .ok env2 => (match body env2 with
      | .ok (.nx e) => forGo g body r e
      | .ok (.ct e) => forGo g body r e
      | .ok (.bk e) => .ok (.nx e)
      | r => r)
    | _ => .stuck
def sFor (is : List Nat) (it : IF) (g : GF) (body : SF) : SF := fun env => (it (fzE is env)).bind fun xs => forGo g body xs (fzE is env)
theorem Gr.based {G1 H1 G2 H2 : Hp} (a : Gr S G0 H0 G1 H1) (b : Gr S G1 H0 G2 H2) : Gr S G0 H0 G2 H2 :=
  ⟨b.h, a.g.trans b.g, b.gh, fun p h1 h2 => b.n p h1 (a.n p h1 h2), b.dom, b.t⟩
theorem StA.based {G1 H1 G2 H2 : Hp} {σ : L2.St} {env : List L} (a : Gr S G0 H0 G1 H1) (b : StA S G1 H0 G2 H2 σ env) : StA S G0 H0 G2 H2 σ env := ⟨a.based b.gr, b.tb, b.env⟩
theorem StA.rebase {G1 H1 : Hp} {σ : L2.St} {env : List L} (a : StA S G0 H0 G1 H1 σ env) : StA S G1 H0 G1 H1 σ env := ⟨⟨a.gr.h, Xt.refl _, a.gr.gh, fun _ _ h => h, a.gr.dom, a.gr.t⟩, a.tb, a.env⟩
theorem cs_for {tg iter : Expr} {body : List Stmt} {sl : List Nat} {it : IF} {g : GF} {f : SF} {pos : Pos} (is : List Nat) (hns : notSet iter = true) (hi : CI S k E cc sc tg iter it) (hg : CG S k E cc sc tg sl g) (hb : CSs S k E cc sc body f) :
    CS S k E cc sc (.For tg iter body [] pos) (sFor is it g f) := by
  obtain ⟨wi, pw, vw⟩ := hi
  obtain ⟨gt, pg, vg⟩ := hg
  obtain ⟨tb, pb, vb⟩ := hb
  refine ⟨tFor wi gt tb, fun X c => ps_for c.po c.calm (pw X c.toCtxOk) (pg X c.toCtxOk) (pb X c) (notSet_ok hns), fun G0 H0 G H σ env a0 => ?_⟩
  obtain ⟨G', a⟩ := a0.fz is
  refine evS_of fun D w => ?_
  have ev := vw H0 G' H σ _ a.at
  have w' : Want S E G0 H0 D ((it (fzE is env)).bind fun xs => forGo g f xs (fzE is env)) := w
  cases e : it (fzE is env) with
  | stuck => rw [e] at w'; exact w'.elim
  | ex c =>
    rw [e] at w' ev
    exact ev _ fun G2 H2 x => w' G2 H2 (a.gr.trans x)
  | ok xs =>
    rw [e] at w' ev
    refine ev _ fun J G2 H2 x ⟨Gd, Y, wk, hGd, hY⟩ => ?_
    have a2 := a.up x
    have w2 : Want S E G0 H0 D (forGo g f xs (fzE is env)) := w'
    refine for_it wk (fun i σ' H' => ∃ G' env', StA S G2 H0 G' H' σ' env' ∧ Want S E G0 H0 D (forGo g f (xs.drop i) env')) ⟨G2, _, a2.rebase, w2⟩ ?_ ?_ ?_
    · rintro i σ' H' _ ⟨G', env', b, _⟩
      exact hGd H' (b.gr.g.trans b.gr.gh.xt)
    · rintro i v σ' H' H'' hi ⟨G', env', b, wb⟩ y
      obtain ⟨G3, x3, rv⟩ := hY i xs[i] G' H' v H'' (List.getElem?_eq_getElem hi) b.gr.g b.gr.gh y
      have b3 := b.up x3
      rw [List.drop_eq_getElem_cons hi] at wb
      have wb' : Want S E G0 H0 D (match g xs[i] env' with
        | .ok env2 => (match f env2 with
          | .ok (.nx e) => forGo g f (xs.drop (i + 1)) e
          | .ok (.ct e) => forGo g f (xs.drop (i + 1)) e
          | .ok (.bk e) => .ok (.nx e)
          | r => r)
        | _ => .stuck) := wb
      cases eg : g xs[i] env' with
      | stuck => rw [eg] at wb'; exact wb'.elim
      | ex c => rw [eg] at wb'; exact wb'.elim
      | ok env2 =>
        rw [eg] at wb'
        simp only [] at wb'
        refine vg H0 G3 H'' σ' env' v _ env2 b3.at rv eg _ fun σ2 r2 _ => ?_
        have b4 : StA S G2 H0 G3 H'' σ2 env2 := ⟨b3.gr, b3.tb, r2⟩
        refine evS_to (vb G2 H0 G3 H'' σ2 env2 b4) _ ?_
        cases ef : f env2 with
        | stuck => rw [ef] at wb'; exact wb'
        | ex c =>
          rw [ef] at wb'
          exact fun G5 H5 z => wb' G5 H5 (a2.gr.based z)
        | ok r =>
          rw [ef] at wb'
          cases r with
          | nx e => exact fun σ5 G5 H5 z => ⟨G5, e, z, wb'⟩
          | ct e => exact fun σ5 G5 H5 z => ⟨G5, e, z, wb'⟩
          | bk e => exact fun σ5 G5 H5 z => wb' σ5 G5 H5 (z.based a2.gr)
          | rt d => exact fun v G5 H5 z rd => wb' v G5 H5 (a2.gr.based z) rd
    · rintro σ' H' ⟨G', env', b, wb⟩
      rw [List.drop_length] at wb
      exact wb σ' G' H' (b.based a2.gr)
/-! ### while -/
def whGo (is : List Nat) (t : TF) (body : SF) : Nat → List L → M R
  | 0, _ => .stuck
  | n + 1, env => match t (fzE is env) with
    | .ok true => (match body (fzE is env) with
      | .ok (.nx e) => whGo is t body n e
      | .ok (.ct e) => whGo is t body n e
      | .ok (.bk e) => .ok (.nx e)
      | r => r)
    | .ok false => .ok (.nx (fzE is env))
    | .ex c => .ex c
    | .stuck => .stuck
def sWh (n : Nat) (is : List Nat) (t : TF) (body : SF) : SF := fun env => whGo is t body n (fzE is env)
theorem cs_while {c : Expr} {body : List Stmt} {t : TF} {f : SF} {pos : Pos} (n : Nat) (hc : CT S k E cc sc c t) (hb : CSs S k E cc sc body f) : CS S k E cc sc (.While c body [] pos) (sWh n [] t f) := by
  obtain ⟨tc, pc, vc⟩ := hc
  obtain ⟨tb, pb, vb⟩ := hb
  refine ⟨tWhile tc tb, fun X c => ps_while c.po (pc X c.toCtxOk) (pb X c), fun G0 H0 G H σ env a => ?_⟩
  refine evS_of fun D w => ⟨fun m σ' H' => ∃ G' env', StA S G0 H0 G' H' σ' env' ∧ Want S E G0 H0 D (whGo [] t f m env'), ⟨n, G, env, a, w⟩, fun m σ' H' ⟨G', env', b, wb⟩ => ?_⟩
  cases m with
  | zero => exact wb.elim
  | succ m =>
    have wb' : Want S E G0 H0 D (match t env' with
      | .ok true => (match f env' with
        | .ok (.nx e) => whGo [] t f m e
        | .ok (.ct e) => whGo [] t f m e
        | .ok (.bk e) => .ok (.nx e)
        | r => r)
      | .ok false => .ok (.nx env')
      | .ex c => .ex c
      | .stuck => .stuck) := wb
    have ev := vc H0 G' H' σ' env' b.at
    cases et : t env' with
    | stuck => rw [et] at wb'; exact wb'.elim
    | ex c =>
      rw [et] at wb' ev
      exact ev _ fun G2 H2 x => wb' G2 H2 (b.gr.trans x)
    | ok v =>
      rw [et] at wb' ev
      refine ev _ fun v' G2 H2 x e => ?_
      have e : v' = v := e
      subst e
      have b2 := b.up x
      cases v' with
      | false => exact wb' σ' G2 H2 b2
      | true =>
        show ∃ N : L2.St → Hp → Prop, _ ∧ _
        refine ⟨fun σ5 H5 => ∃ G5 e5, StA S G0 H0 G5 H5 σ5 e5 ∧ Want S E G0 H0 D (whGo [] t f m e5), fun σ5 H5 z => ⟨m, Nat.lt_succ_self m, z⟩, evS_to (vb G0 H0 G2 H2 σ' env' b2) _ ?_⟩
        simp only [] at wb'
        cases ef : f env' with
        | stuck => rw [ef] at wb'; exact wb'
        | ex c =>
          rw [ef] at wb'
          exact wb'
        | ok r =>
          rw [ef] at wb'
          cases r with
          | nx e => exact fun σ5 G5 H5 z => ⟨G5, e, z, wb'⟩
          | ct e => exact fun σ5 G5 H5 z => ⟨G5, e, z, wb'⟩
          | bk e => exact wb'
          | rt d => exact wb'
/-! ### raise -/
structure ExcAt (S : Sys) (x : Str) : Prop where
  mg : S.mg x = some (.ref (S.ca x))
  xc : PySem.W.excIn S.K (S.ca x) He.veBase "ValueError.__new__" = true
  kp : PySem.W.keepIn S.K (.ref (S.ca x)) = true
  sb : PySem.W.subIn S.K (.ref (S.ca x)) (.type "BaseException") = some true
  ty : PySem.W.typeIn S.K (.ref (S.ca x)) = some (.type "type")
def sRaise (c : Str) : SF := fun _ => .ex c
theorem cs_raise {x m : Str} {j : Nat} {p p2 pos pos2 : Pos} (F : ExcAt S x) (hg : glB sc x = true) : CS S k E cc sc (.Raise (some (.Call (.Name x p) [.Constant (.str m) j p2] [] pos)) none pos2) (sRaise x) := by
  refine ⟨fun _ σ H => E (.ref (S.ca x)) none H, fun X c => ?_, fun G0 H0 G H σ env a D q => q G H a.gr⟩
  obtain ⟨g1, g2, _⟩ := glB_ok c.toCtxOk hg
  have c0 := c.toCtxOk
  exact ps_raise c.calm c.tk (pmk_own PySem.F.excBase_ValueError (by rw [c0.K]; exact F.xc) (by rw [c0.mg]; exact F.mg) (by rw [c0.K]; exact F.kp) (raises_own (by rw [c0.K]; exact F.sb) (by rw [c0.K]; exact F.ty)) g1 g2)
/-! ### lists that grow and shrink -/
def onOwn (env : List L) (i : Nat) (f : List D → M R) : M R := match env[i]? with
  | some (.own xs) => f xs
  | _ => .stuck
def sApp (is : List Nat) (i : Nat) (f : EF) : SF := fun env => onOwn (fzE is env) i fun xs => (f (fzE is env)).bind fun l => l.fz.bind fun d => if xs.length < cap then .ok (.nx ((fzE is env).set i (.own (xs ++ [d])))) else .stuck
def sExt (is : List Nat) (i : Nat) (f : EF) : SF := fun env => onOwn (fzE is env) i fun xs => (f (fzE is env)).bind fun l => match l with
  | .fr ys => if xs.length + ys.length ≤ cap then .ok (.nx ((fzE is env).set i (.own (xs ++ ys)))) else .stuck
  | .d (.list ys) => if xs.length + ys.length ≤ cap then .ok (.nx ((fzE is env).set i (.own (xs ++ ys)))) else .stuck
  | _ => .stuck
theorem own_at {G H : Hp} {σ : L2.St} {env : List L} (a : At S H0 G H σ env) {i : Nat} {xs : List D} (e : env[i]? = some (.own xs)) : ∃ p vs, σ[i]? = some (some (.ref p)) ∧ H p = some (.lst vs) ∧ DRs S.K G vs xs := by
  obtain ⟨p, vs, h1, _, _, h2, r, _⟩ := a.env.write e
  exact ⟨p, vs, h1, h2, r⟩
/-- the own list at i gets another content -/
theorem StA.write {G H : Hp} {σ : L2.St} {env : List L} (a : StA S G0 H0 G H σ env) {i : Nat} {xs : List D} (e : env[i]? = some (.own xs)) : ∃ p vs, σ[i]? = some (some (.ref p)) ∧ H p = some (.lst vs) ∧ DRs S.K G vs xs ∧
    ∀ vs' xs', DRs S.K G vs' xs' → StA S G0 H0 G (upd H p (.lst vs')) σ (env.set i (.own xs')) := by
  obtain ⟨p, vs, h1, z, g, h2, r, c, _⟩ := a.env.write e
  exact ⟨p, vs, h1, h2, r, fun vs' xs' r' => ⟨a.gr.mut z g h2, a.tb, c vs' xs' r'⟩⟩
theorem ps_meth1 {X : Cx} {x : Str} {i : Nat} {e : Expr} {te : TE} {name : Str} {id : String} {r : V → List V → Hp → VK → Prop} {p1 p2 p3 pos : Pos} (slot : Slot "list" name id) (hty : typeOf (.builtin id) = pure (.type "method_descriptor")) (hm : MtR X id r)
    (hi : X.N[i]? = some x) (hv : Vis X.env.scope x) (hd : (x == ("__debug__" : Str)) = false) (hcd : (x == ("__classdict__" : Str)) = false) (hl : (p2.endLine == p3.line) = true) (hs : notStar e = true) (he : PE X e te) :
    PE X (.Call (.Attribute (.Name x p1) name p2) [e] [] p3) (tBM X.K "list" r (tVar i) (tCons te tNil)) :=
  pe_bm PySem.F.plainAttrs_list slot hty hm (pe_var hi hv hd hcd) (pa_cons he pa_nil (star_cons hs)) rfl (by rw [star_cons hs]; rfl) hl (star_cons hs) rfl
theorem evS_imp {t t' : TS} {σ : L2.St} {H : Hp} {r : M R} (h : EvS S E G0 H0 t σ H r) (x : ∀ D, t D σ H → t' D σ H) : EvS S E G0 H0 t' σ H r := evS_of fun D w => x D (evS_to h D w)
/-- a method of one argument, of an own list -/
theorem ev_own {te : TE} {r : V → List V → Hp → VK → Prop} {G H : Hp} {σ : L2.St} {env : List L} {i : Nat} {rr : M L} {g : List D → L → M R} (a : StA S G0 H0 G H σ env) (h : EvW S E te σ G H rr)
    (hk : ∀ xs p x l G2 H2, env[i]? = some (.own xs) → σ[i]? = some (some (.ref p)) → Gr S G H G2 H2 → WR S H G2 H2 x l → EvS S E G0 H0 (fun D _ H2 => r (.ref p) [x] H2 fun _ H3 => D.nx σ H3) σ H2 (g xs l)) :
    EvS S E G0 H0 (tDrop (tBM S.K "list" r (tVar i) (tCons te tNil))) σ H (onOwn env i fun xs => rr.bind (g xs)) := by
  unfold onOwn
  split
  · rename_i xs e
    obtain ⟨p, vs, h1, h2, r1, _⟩ := a.write e
    refine evS_imp (t := fun D σ H => te σ H fun x H1 => r (.ref p) [x] H1 fun _ H3 => D.nx σ H3) (ev_exp (kk := fun D x H1 => r (.ref p) [x] H1 fun _ H3 => D.nx σ H3) a h fun x l G2 H2 gr rx => hk xs p x l G2 H2 e h1 gr rx) fun D q => ⟨.ref p, h1, .inl ⟨rfl, vs, SqL.of h2⟩, q⟩
  · exact True.intro
theorem cs_append {x : Str} {i : Nat} {e : Expr} {f : EF} {p1 p2 p3 pos : Pos} (is : List Nat) (hi : cc.N[i]? = some x) (hv : Vis sc.sc x) (hd : (x == ("__debug__" : Str)) = false) (hcd : (x == ("__classdict__" : Str)) = false) (hl : (p2.endLine == p3.line) = true) (hs : notStar e = true) (h : CE S k E cc sc e f) :
    CS S k E cc sc (.Expr (.Call (.Attribute (.Name x p1) "append" p2) [e] [] p3) pos) (sApp is i f) := by
  obtain ⟨t, p, v⟩ := h
  refine ⟨tDrop (tBM S.K "list" rAppend (tVar i) (tCons t tNil)), fun X c => ps_expr (by rw [← c.toCtxOk.K]; exact ps_meth1 (pos := pos) PySem.F.slot_list_append PySem.F.type_list_append mt_append (by rw [c.N]; exact hi) (by rw [c.scp]; exact hv) hd hcd hl hs (p X c.toCtxOk)) (notComp_ok rfl), fun G0 H0 G H σ env a0 => ?_⟩
  obtain ⟨G', a⟩ := a0.fz is
  refine ev_own a (v H0 G' H σ _ a.at) fun xs p x l G2 H2 ei eσ gr rx => ?_
  cases e1 : l.fz with
  | stuck => exact True.intro
  | ex c => exact absurd e1 fun z => by cases l <;> cases z
  | ok d =>
    obtain ⟨G3, gr3, r3⟩ := rx.fz gr e1
    have a3 := a.up gr3
    obtain ⟨p', vs, h1, h2, r1, hw⟩ := a3.write ei
    rw [eσ] at h1
    cases h1
    show EvS S E G0 H0 _ σ H2 (if xs.length < cap then .ok (.nx ((fzE is env).set i (.own (xs ++ [d])))) else .stuck)
    split
    · rename_i hc
      exact fun D q => ⟨p, vs, x, rfl, rfl, h2, by rw [r1.length]; exact cap_lt (Nat.le_of_lt hc), q σ G3 _ (hw _ _ (r1.append (.cons r3 .nil)))⟩
    · exact True.intro
theorem cs_extend {x : Str} {i : Nat} {e : Expr} {f : EF} {p1 p2 p3 pos : Pos} (is : List Nat) (hi : cc.N[i]? = some x) (hv : Vis sc.sc x) (hd : (x == ("__debug__" : Str)) = false) (hcd : (x == ("__classdict__" : Str)) = false) (hl : (p2.endLine == p3.line) = true) (hs : notStar e = true) (h : CE S k E cc sc e f) :
    CS S k E cc sc (.Expr (.Call (.Attribute (.Name x p1) "extend" p2) [e] [] p3) pos) (sExt is i f) := by
  obtain ⟨t, p, v⟩ := h
  refine ⟨tDrop (tBM S.K "list" rExtend (tVar i) (tCons t tNil)), fun X c => ps_expr (by rw [← c.toCtxOk.K]; exact ps_meth1 (pos := pos) PySem.F.slot_list_extend PySem.F.type_list_extend mt_extend (by rw [c.N]; exact hi) (by rw [c.scp]; exact hv) hd hcd hl hs (p X c.toCtxOk)) (notComp_ok rfl), fun G0 H0 G H σ env a0 => ?_⟩
  obtain ⟨G', a⟩ := a0.fz is
  refine ev_own a (v H0 G' H σ _ a.at) fun xs p x l G2 H2 ei eσ gr rx => ?_
  have a3 := a.up gr
  obtain ⟨p', vs, h1, h2, r1, hw⟩ := a3.write ei
  rw [eσ] at h1
  cases h1
  split
  · rename_i ys
    split
    · rename_i hc
      obtain ⟨q1, us, rfl, _, _, h5, r5⟩ := rx
      exact fun D q => ⟨p, q1, vs, us, rfl, rfl, h2, h5, by rw [r1.length, r5.length]; exact cap_le hc, q σ G2 _ (hw _ _ (r1.append r5))⟩
    · exact True.intro
  · rename_i ys
    split
    · rename_i hc
      obtain ⟨q1, us, rfl, h5, r5⟩ := DR.toLst rx
      exact fun D q => ⟨p, q1, vs, us, rfl, rfl, h2, gr.gh.xt.lst h5, by rw [r1.length, r5.length]; exact cap_le hc, q σ G2 _ (hw _ _ (r1.append r5))⟩
    · exact True.intro
  · exact True.intro
/-! an expression that takes from an own list: b.pop(), b.pop(k) -/
def CP (S : Sys) (k : Nat) (E : XK) (cc : CC) (sc : SC) (e : Expr) (f : List L → M (D × List L)) : Prop := ∃ t : TE, (∀ X, CtxS S k E cc sc X → PE X e t) ∧ ∀ G0 H0 G H σ env, StA S G0 H0 G H σ env → match f env with
  | .stuck => True
  | .ex c => ∀ Q : VK, (∀ G2 H2, Gr S G0 H0 G2 H2 → E (.ref (S.ca c)) none H2) → t σ H Q
  | .ok r => ∀ Q : VK, (∀ v G' H', StA S G0 H0 G' H' σ r.2 → DR S.K G' v r.1 → Q v H') → t σ H Q
def ownP (env : List L) (i : Nat) (f : List D → M (D × List L)) : M (D × List L) := match env[i]? with
  | some (.own xs) => f xs
  | _ => .stuck
def pPop (i : Nat) : List L → M (D × List L) := fun env => ownP env i fun xs => match xs[xs.length - 1]? with
  | some d => .ok (d, env.set i (.own xs.dropLast))
  | none => .stuck
def pPopAt (i : Nat) (f : EF) : List L → M (D × List L) := fun env => ownP env i fun xs => (f env).bind fun l => match l with
  | .d (.int k) => if -(2 ^ 63) ≤ k ∧ k < 2 ^ 63 then (match seqIndex? k xs.length with
    | some j => (match xs[j]? with
      | some d => .ok (d, env.set i (.own (xs.eraseIdx j)))
      | none => .stuck)
    | none => .stuck) else .stuck
  | _ => .stuck
theorem cp_pop {x : Str} {i : Nat} {p1 p2 p3 : Pos} (hi : cc.N[i]? = some x) (hv : Vis sc.sc x) (hd : (x == ("__debug__" : Str)) = false) (hcd : (x == ("__classdict__" : Str)) = false) (hl : (p2.endLine == p3.line) = true) :
    CP S k E cc sc (.Call (.Attribute (.Name x p1) "pop" p2) [] [] p3) (pPop i) := by
  refine ⟨tBM0 S.K "list" rPop (tVar i), fun X c => by rw [← c.toCtxOk.K]; exact pe_bm0 PySem.F.plainAttrs_list PySem.F.slot_list_pop PySem.F.type_list_pop mt_pop (pe_var (by rw [c.N]; exact hi) (by rw [c.scp]; exact hv) hd hcd) rfl hl, fun G0 H0 G H σ env a => ?_⟩
  unfold pPop ownP
  split
  · trivial
  · rename_i e
    split at e <;> first | (cases e; done) | skip
    dsimp only at e
    split at e <;> cases e
  · rename_i r e
    split at e
    · rename_i xs ei
      dsimp only at e
      obtain ⟨p, vs, h1, h2, r1, hw⟩ := a.write ei
      split at e
      · rename_i d ed
        cases e
        obtain ⟨v, hv, rv⟩ := r1.get ed
        exact fun Q q => ⟨.ref p, h1, .inl ⟨rfl, vs, SqL.of h2⟩, p, vs, v, rfl, rfl, h2, by rw [r1.length]; exact hv, q v G _ (hw _ _ r1.dropLast) rv⟩
      · cases e
    · cases e
theorem cp_popAt {x : Str} {i : Nat} {e : Expr} {f : EF} {p1 p2 p3 : Pos} (hi : cc.N[i]? = some x) (hv : Vis sc.sc x) (hd : (x == ("__debug__" : Str)) = false) (hcd : (x == ("__classdict__" : Str)) = false) (hl : (p2.endLine == p3.line) = true) (hs : notStar e = true) (h : CE S k E cc sc e f) :
    CP S k E cc sc (.Call (.Attribute (.Name x p1) "pop" p2) [e] [] p3) (pPopAt i f) := by
  obtain ⟨t, p, v⟩ := h
  refine ⟨tBM S.K "list" rPopAt (tVar i) (tCons t tNil), fun X c => by rw [← c.toCtxOk.K]; exact ps_meth1 (pos := p3) PySem.F.slot_list_pop PySem.F.type_list_pop mt_popAt (by rw [c.N]; exact hi) (by rw [c.scp]; exact hv) hd hcd hl hs (p X c.toCtxOk), fun G0 H0 G H σ env a => ?_⟩
  have ev := v H0 G H σ env a.at
  unfold pPopAt ownP
  cases ei : env[i]? with
  | none => trivial
  | some l0 =>
    cases l0 <;> first | trivial | skip
    rename_i xs
    obtain ⟨p, vs, h1, h2, r1, hw⟩ := a.write ei
    show match ((f env).bind fun l => match l with
      | .d (.int k) => if -(2 ^ 63) ≤ k ∧ k < 2 ^ 63 then (match seqIndex? k xs.length with
        | some j => (match xs[j]? with
          | some d => .ok (d, env.set i (.own (xs.eraseIdx j)))
          | none => .stuck)
        | none => .stuck) else .stuck
      | _ => .stuck : M (D × List L)) with
      | .stuck => True
      | .ex c => ∀ Q : VK, (∀ G2 H2, Gr S G0 H0 G2 H2 → E (.ref (S.ca c)) none H2) → tBM S.K "list" rPopAt (tVar i) (tCons t tNil) σ H Q
      | .ok r => ∀ Q : VK, (∀ v G' H', StA S G0 H0 G' H' σ r.2 → DR S.K G' v r.1 → Q v H') → tBM S.K "list" rPopAt (tVar i) (tCons t tNil) σ H Q
    cases ef : f env with
    | stuck => trivial
    | ex c =>
      rw [ef] at ev
      exact fun Q q => ⟨.ref p, h1, .inl ⟨rfl, vs, SqL.of h2⟩, ev _ fun G2 H2 x => q G2 H2 (a.gr.trans x)⟩
    | ok l =>
      rw [ef] at ev
      cases l <;> first | trivial | skip
      rename_i d
      cases d <;> first | trivial | skip
      rename_i kk
      show match (if -(2 ^ 63) ≤ kk ∧ kk < 2 ^ 63 then (match seqIndex? kk xs.length with
        | some j => (match xs[j]? with
          | some d => .ok (d, env.set i (.own (xs.eraseIdx j)))
          | none => .stuck)
        | none => .stuck) else .stuck : M (D × List L)) with
        | .stuck => True
        | .ex c => ∀ Q : VK, (∀ G2 H2, Gr S G0 H0 G2 H2 → E (.ref (S.ca c)) none H2) → tBM S.K "list" rPopAt (tVar i) (tCons t tNil) σ H Q
        | .ok r => ∀ Q : VK, (∀ v G' H', StA S G0 H0 G' H' σ r.2 → DR S.K G' v r.1 → Q v H') → tBM S.K "list" rPopAt (tVar i) (tCons t tNil) σ H Q
      by_cases hk : -(2 ^ 63) ≤ kk ∧ kk < 2 ^ 63
      · rw [if_pos hk]
        cases es : seqIndex? kk xs.length with
        | none => trivial
        | some j =>
          cases ed : xs[j]? with
          | none => simp only [ed]
          | some d =>
            simp only [ed]
            refine fun Q q => ⟨.ref p, h1, .inl ⟨rfl, vs, SqL.of h2⟩, ev _ fun y G2 H2 x ry => ?_⟩
            have ey := DR.toInt ry
            subst ey
            obtain ⟨p', vs', h1', h2', r1', hw'⟩ := (a.up x).write ei
            rw [h1] at h1'
            cases h1'
            obtain ⟨v, hv, rv⟩ := r1'.get ed
            exact ⟨p, vs', kk, j, v, rfl, rfl, h2', hk.1, hk.2, by rw [r1'.length]; exact es, hv, q v G2 _ (hw' _ _ (r1'.eraseIdx j)) rv⟩
      · rw [if_neg hk]
        trivial
def sPopX (f : List L → M (D × List L)) : SF := fun env => (f env).bind fun r => .ok (.nx r.2)
def sPopA (i : Nat) (f : List L → M (D × List L)) : SF := fun env => (f env).bind fun r => .ok (.nx (r.2.set i (.d r.1)))
def sAppP (i : Nat) (f : List L → M (D × List L)) : SF := fun env => match env[i]? with
  | some (.own _) => (f env).bind fun r => (match r.2[i]? with
    | some (.own xs) => if xs.length < cap then .ok (.nx (r.2.set i (.own (xs ++ [r.1])))) else .stuck
    | _ => .stuck)
  | _ => .stuck
theorem cs_popX {e : Expr} {f : List L → M (D × List L)} {pos : Pos} (hc : notComp e = true) (h : CP S k E cc sc e f) : CS S k E cc sc (.Expr e pos) (sPopX f) := by
  obtain ⟨t, p, v⟩ := h
  refine ⟨tDrop t, fun X c => ps_expr (p X c) (notComp_ok hc), fun G0 H0 G H σ env a => ?_⟩
  have ev := v G0 H0 G H σ env a
  unfold sPopX
  cases ef : f env with
  | stuck => exact True.intro
  | ex c =>
    rw [ef] at ev
    exact fun D q => ev _ q
  | ok r =>
    rw [ef] at ev
    exact fun D q => ev _ fun v G' H' b _ => q σ G' H' b
theorem cs_popA {x : Str} {i : Nat} {e : Expr} {f : List L → M (D × List L)} {pos pos' : Pos} (hi : cc.N[i]? = some x) (hl : locB sc x = true) (hc : notComp e = true) (h : CP S k E cc sc e f) : CS S k E cc sc (.Assign [.Name x pos'] e pos) (sPopA i f) := by
  obtain ⟨t, p, v⟩ := h
  obtain ⟨h1, h2⟩ := locB_ok hl
  refine ⟨tAsg t (gName i), fun X c => ps_set (by rw [c.N]; exact c.nd) (by rw [c.N]; exact hi) (by rw [c.scp]; exact h1) (p X c) (notComp_ok hc) (by rw [c.fn, c.scp]; exact h2), fun G0 H0 G H σ env a => ?_⟩
  have ev := v G0 H0 G H σ env a
  unfold sPopA
  cases ef : f env with
  | stuck => exact True.intro
  | ex c =>
    rw [ef] at ev
    exact fun D q => ev _ q
  | ok r =>
    rw [ef] at ev
    exact fun D q => ev _ fun v G' H' b rv => q _ G' H' ⟨b.gr, b.tb, b.env.setD i rv⟩
theorem cs_appP {x : Str} {i : Nat} {e : Expr} {f : List L → M (D × List L)} {p1 p2 p3 pos : Pos} (hi : cc.N[i]? = some x) (hv : Vis sc.sc x) (hd : (x == ("__debug__" : Str)) = false) (hcd : (x == ("__classdict__" : Str)) = false) (hl : (p2.endLine == p3.line) = true) (hs : notStar e = true) (h : CP S k E cc sc e f) :
    CS S k E cc sc (.Expr (.Call (.Attribute (.Name x p1) "append" p2) [e] [] p3) pos) (sAppP i f) := by
  obtain ⟨t, p, v⟩ := h
  refine ⟨tDrop (tBM S.K "list" rAppend (tVar i) (tCons t tNil)), fun X c => ps_expr (by rw [← c.toCtxOk.K]; exact ps_meth1 (pos := pos) PySem.F.slot_list_append PySem.F.type_list_append mt_append (by rw [c.N]; exact hi) (by rw [c.scp]; exact hv) hd hcd hl hs (p X c)) (notComp_ok rfl), fun G0 H0 G H σ env a => ?_⟩
  have ev := v G0 H0 G H σ env a
  unfold sAppP
  cases ei : env[i]? with
  | none => exact True.intro
  | some l0 =>
    cases l0 <;> first | exact True.intro | skip
    rename_i xs0
    obtain ⟨p, vs, h1, h2, r1, _⟩ := a.write ei
    show EvS S E G0 H0 _ σ H ((f env).bind fun r => (match r.2[i]? with
      | some (.own xs) => if xs.length < cap then .ok (.nx (r.2.set i (.own (xs ++ [r.1])))) else .stuck
      | _ => .stuck))
    cases ef : f env with
    | stuck => exact True.intro
    | ex c =>
      rw [ef] at ev
      exact fun D q => ⟨.ref p, h1, .inl ⟨rfl, vs, SqL.of h2⟩, ev _ q⟩
    | ok r =>
      rw [ef] at ev
      show EvS S E G0 H0 _ σ H (match r.2[i]? with
        | some (.own xs) => if xs.length < cap then .ok (.nx (r.2.set i (.own (xs ++ [r.1])))) else .stuck
        | _ => .stuck)
      cases ei2 : r.2[i]? with
      | none => exact True.intro
      | some l2 =>
        cases l2 <;> first | exact True.intro | skip
        rename_i xs
        show EvS S E G0 H0 _ σ H (if xs.length < cap then .ok (.nx (r.2.set i (.own (xs ++ [r.1])))) else .stuck)
        split
        · rename_i hc
          refine fun D q => ⟨.ref p, h1, .inl ⟨rfl, vs, SqL.of h2⟩, ev _ fun y G' H' b ry => ?_⟩
          obtain ⟨p', vs', h1', h2', r1', hw'⟩ := b.write ei2
          rw [h1] at h1'
          cases h1'
          exact ⟨p, vs', y, rfl, rfl, h2', by rw [r1'.length]; exact cap_lt (Nat.le_of_lt hc), q σ G' _ (hw' _ _ (r1'.append (.cons ry .nil)))⟩
        · exact True.intro
/-! x[i] = e, x an own list -/
def sSto (is : List Nat) (i : Nat) (ix f : EF) : SF := fun env => (f (fzE is env)).bind fun l => l.fz.bind fun d => onOwn (fzE is env) i fun xs => (ix (fzE is env)).bind fun m => match m with
  | .d (.int k) => (match ixN xs.length k with
    | some j => .ok (.nx ((fzE is env).set i (.own (xs.set j d))))
    | none => .stuck)
  | _ => .stuck
def notSlice : Expr → Bool
  | .Slice _ _ _ _ => false
  | _ => true
theorem sub_assign {o i : Expr} {p : Pos} {env : Env} (h : notSlice i = true) : ∀ v, assign (.Subscript o i p) env v = (do
      let ov ← holding [v] (eval o env)
      let iv ← holding [v, ov] (eval i env)
      standAt p
      holding [v, ov, iv] (setItem ov iv v)
      release [v, ov, iv] []) := by
  intro v
  cases i <;> first | rfl | cases h
theorem swapsSub {o i : Expr} {p : Pos} {e : Expr} {l : Nat} {env : Env} : swapsWithSole [.Subscript o i p] e l env = pure false := by cases e <;> rfl
theorem swappedSub {o i : Expr} {p : Pos} {e : Expr} {env : Env} : swappedStores [.Subscript o i p] e env = pure none := by cases e <;> rfl
theorem cs_store {x : Str} {i : Nat} {e ie : Expr} {f ix : EF} {p1 p2 pos : Pos} (is : List Nat) (hi : cc.N[i]? = some x) (hv : Vis sc.sc x) (hd : (x == ("__debug__" : Str)) = false) (hcd : (x == ("__classdict__" : Str)) = false) (hsl : notSlice ie = true) (h : CE S k E cc sc e f) (hix : CE S k E cc sc ie ix) :
    CS S k E cc sc (.Assign [.Subscript (.Name x p1) ie p2] e pos) (sSto is i ix f) := by
  obtain ⟨t, p, v⟩ := h
  obtain ⟨u, q, w⟩ := hix
  refine ⟨tAsg t (gSub (tVar i) u rSetL), fun X c => ps_asg (p X c.toCtxOk) (pg_sub (pe_var (by rw [c.N]; exact hi) (by rw [c.scp]; exact hv) hd hcd) (q X c.toCtxOk) set_list (sub_assign hsl)) swapsSub swappedSub rfl, fun G0 H0 G H σ env a0 => ?_⟩
  obtain ⟨G', a⟩ := a0.fz is
  refine ev_exp (kk := fun D x H1 => ∃ vo, σ[i]? = some (some vo) ∧ u σ H1 fun iv H2 => rSetL vo iv x H2 fun H3 => D.nx σ H3) a (v H0 G' H σ _ a.at) fun x l G2 H2 gr rx => ?_
  cases e1 : l.fz with
  | stuck => exact True.intro
  | ex c => exact absurd e1 fun z => by cases l <;> cases z
  | ok d =>
    obtain ⟨G3, gr3, r3⟩ := rx.fz gr e1
    have a3 := a.up gr3
    show EvS S E G0 H0 _ σ H2 (onOwn (fzE is env) i fun xs => (ix (fzE is env)).bind fun m => match m with
      | .d (.int k) => (match ixN xs.length k with
        | some j => .ok (.nx ((fzE is env).set i (.own (xs.set j d))))
        | none => .stuck)
      | _ => .stuck)
    unfold onOwn
    split
    · rename_i xs ei
      obtain ⟨p, vs, h1, h2, r1, _⟩ := a3.write ei
      refine evS_imp (t := fun D σ H => u σ H fun iv H2 => rSetL (.ref p) iv x H2 fun H3 => D.nx σ H3) (ev_exp (kk := fun D iv H2 => rSetL (.ref p) iv x H2 fun H3 => D.nx σ H3) a3 (w H0 G3 H2 σ _ a3.at) fun y l2 G4 H4 gr4 ry => ?_) fun D q => ⟨_, h1, q⟩
      have a4 := a3.up gr4
      split
      · rename_i kk
        have ey := DR.toInt ry
        subst ey
        split
        · rename_i j ej
          obtain ⟨p', vs', h1', h2', r1', hw'⟩ := a4.write ei
          rw [h1] at h1'
          cases h1'
          exact fun D q => ⟨p, vs', kk, j, rfl, rfl, h2', by rw [r1'.length]; exact ej, q σ G4 _ (hw' _ _ (r1'.set (r3.up gr4.g) j))⟩
        · exact True.intro
      · exact True.intro
    · exact True.intro
end
end PD
/-! sum of a tuple, sorted of data -/
namespace PD
open PySem PySem.Spec PyProof.Rows L2
section
variable {X : Cx}
def rSumA (K : Frg) : List V → Hp → VK → Prop := fun vs H Q => ∃ (a : Addr) (ns : List Int), vs = [V.ref a] ∧ (SqL K H a (ns.map V.int) ∨ SqT K H a (ns.map V.int)) ∧ Q (.int ns.sum) H
theorem cr_sumA (hc : X.calm = true) : CallR X (.builtin "sum") (rSumA X.K) := by
  intro pins s σ H vs us Q I r h
  obtain ⟨a, ns, rfl, hs | hs, q⟩ := h
  · exact cr_sum hc pins s σ H _ us Q I r ⟨a, ns, rfl, hs, q⟩
  · obtain ⟨its, rv, hl, _⟩ := I.tuple hs
    rw [Vals.ref1 r]
    have hi := rv.ints
    obtain ⟨xs, e⟩ := hi.allInts.items
    have hn : PySem.numsOf (PySem.intItems xs).toList = ns := by rw [← e]; exact hi.numsOf
    rw [PySem.nums_intItems] at hn
    have hl' : s.heap.IsTuple a its.toArray := hl
    rw [e] at hl'
    refine PySem.W.ktm_sumG (I.ok.hd hc) hl' fun h' tk t' hk => ?_
    have e2 : PySem.preSum (PySem.numAt xs) xs.size = ns.sum := by rw [PySem.preSum_eq, List.take_of_length_le (by simp), hn]
    rw [e2]
    exact ⟨.int _, H, I.kept hk, ⟨_, rfl⟩, q⟩
def rSortD (K : Frg) : List V → Hp → VK → Prop := fun vs H Q => ∃ (a : Addr) (l : List (V × D)), vs = [V.ref a] ∧ SqL K H a (l.map (·.1)) ∧ (∀ p ∈ l, Dp K H p.1 p.2) ∧ PySem.W.AllAlike (l.map (·.2)) ∧ PySem.W.Sortable (l.map (·.2)) ∧ (∀ p ∈ l, p.2.depth ≤ 64) ∧
  ∀ p, H p = none → Q (.ref p) (upd H p (.lst ((l.mergeSort (PySem.W.dataLe false (·.2))).map (·.1))))
theorem vals_each {its : List Value} : ∀ {l : List (V × D)}, Vals (l.map (·.1)) its → PySem.W.EachIs (fun u (b : V × D) => RelV b.1 u) its l
  | [], h => by cases h; exact .nil
  | p :: l, h => by
    cases h with
    | cons h1 h2 => exact .cons h1 (vals_each h2)
theorem each_vals {out : List Value} {l : List (V × D)} (h : PySem.W.EachIs (fun u (b : V × D) => RelV b.1 u) out l) : Vals (l.map (·.1)) out := by
  induction h with
  | nil => exact .nil
  | cons h1 _ ih => exact .cons h1 ih
theorem each_reads {K : Frg} {pins : List (Addr × Obj)} {σ : L2.St} {H : Hp} {s : Shared} {its : List Value} (I : Inv X pins σ H s) : ∀ {l : List (V × D)}, (∀ p ∈ l, Dp X.K H p.1 p.2) → PySem.W.EachIs (fun u (b : V × D) => RelV b.1 u) its l → PySem.W.EachIs (fun u (b : V × D) => ∃ as, Reads s.heap u b.2 as) its l := fun {l} hd h => by
  induction h with
  | nil => exact .nil
  | cons h1 _ ih => exact .cons (Dp.reads I _ _ _ (hd _ (List.mem_cons_self ..)) h1) (ih fun p hp => hd p (List.mem_cons_of_mem _ hp))
theorem cr_sortD (hu : X.A.units + 70 < cLine) : CallR X (.builtin "sorted") (rSortD X.K) := by
  intro pins s σ H vs us Q I r h
  obtain ⟨a, l, rfl, hs, hd, hal, hk, hdp, q⟩ := h
  obtain ⟨its, rv, hl, hz⟩ := I.list hs
  rw [Vals.ref1 r]
  have he := vals_each rv
  refine PySem.W.sorted_data (R := fun u (b : V × D) => RelV b.1 u) (enc := (·.2)) hl.isList he (each_reads (K := X.K) I hd he) hal hk (by rw [List.length_map] at hz; exact hz) (fun b hb => by have := hdp b hb; omega) fun out ho heo => ?_
  obtain ⟨ep, he'⟩ := PyProof.Rows.sortedAll_at s.heap its out.toArray
  have hv := each_vals heo
  have hlen : ((l.mergeSort (PySem.W.dataLe false (·.2))).map (·.1)).length ≤ sizeLine := by
    rw [List.length_map, List.length_mergeSort]
    rw [List.length_map] at hz
    exact hz
  exact ⟨.ref _, upd H (s.heap.objs.size + 1) (.lst ((l.mergeSort (PySem.W.dataLe false (·.2))).map (·.1))), I.laid (t' := s.toks) (fun _ _ => PyProof.Rows.sortedAll_old) (Nat.le_succ _) ⟨hlen, out, ep, hv, he'⟩, rfl, q _ (I.hok.fresh (Nat.le_succ _))⟩
end
/-! ### the readings -/
def bSum2 : List L → M L
  | [a] => match a.rd with
    | .ok (.list xs) => (match intsOf xs with
      | some ns => okI ns.sum
      | none => .stuck)
    | .ok (.tuple xs) => (match intsOf xs with
      | some ns => okI ns.sum
      | none => .stuck)
    | _ => .stuck
  | _ => .stuck
def alikeB (ds : List D) : Bool := ds.all fun d => ds.all fun e => PySem.W.alike d e
def headB : D → Bool
  | .tuple (_ :: _) => true
  | _ => false
def plainB : D → Bool
  | .none => false
  | .tuple _ => false
  | _ => true
def sortB (ds : List D) : Bool := alikeB ds && ((ds.all headB || ds.all plainB) && ds.all fun d => SeqAt.shaped d)
def sortD (ds : List D) : List D := ds.mergeSort (PySem.W.dataLe false id)
def noScr : D → Bool
  | .dict _ => false
  | _ => true
def bSorted2 : List L → M L
  | [a] => match rdInts a with
    | some ns => .ok (.fr ((sortI ns).map .int))
    | none => (match a.rd with
      | .ok (.list ds) => if sortB ds = true then .ok (.fr (sortD ds)) else .stuck
      | _ => .stuck)
  | _ => .stuck
theorem alikeB_ok {ds : List D} (h : alikeB ds = true) : PySem.W.AllAlike ds := fun d hd d' hd' => by
  have h1 := List.all_eq_true.mp h d hd
  exact List.all_eq_true.mp h1 d' hd'
theorem sortB_ok {ds : List D} (h : sortB ds = true) : PySem.W.AllAlike ds ∧ PySem.W.Sortable ds ∧ ∀ d ∈ ds, SeqAt.shaped d = true := by
  unfold sortB at h
  rw [Bool.and_eq_true, Bool.and_eq_true, Bool.or_eq_true] at h
  refine ⟨alikeB_ok h.1, ?_, List.all_eq_true.mp h.2.2⟩
  rcases h.2.1 with h1 | h1
  · refine .inl fun d hd => ?_
    have h2 := List.all_eq_true.mp h1 d hd
    unfold headB at h2
    split at h2
    · exact ⟨_, _, rfl⟩
    · cases h2
  · refine .inr fun d hd => ?_
    have h2 := List.all_eq_true.mp h1 d hd
    unfold plainB at h2
    split at h2
    · cases h2
    · cases h2
    · rename_i n1 n2
      exact ⟨n1, n2⟩
theorem drs_zip {K : Frg} {G : Hp} : ∀ {vs : List V} {ds : List D}, DRs K G vs ds → ∃ l : List (V × D), vs = l.map (·.1) ∧ ds = l.map (·.2) ∧ ∀ p ∈ l, DR K G p.1 p.2
  | _, _, .nil => ⟨[], rfl, rfl, fun _ h => absurd h (by simp)⟩
  | _, _, .cons (v := v) (d := d) a r => by
    obtain ⟨l, h1, h2, h3⟩ := drs_zip r
    refine ⟨(v, d) :: l, by rw [h1]; rfl, by rw [h2]; rfl, fun p hp => ?_⟩
    rcases List.mem_cons.mp hp with e | e
    · rw [e]; exact a
    · exact h3 p e
theorem zip_drs {K : Frg} {G : Hp} : ∀ {l : List (V × D)}, (∀ p ∈ l, DR K G p.1 p.2) → DRs K G (l.map (·.1)) (l.map (·.2))
  | [], _ => .nil
  | p :: l, h => .cons (h p (List.mem_cons_self ..)) (zip_drs fun q hq => h q (List.mem_cons_of_mem _ hq))
section
variable {S : Sys} {E : XK}
theorem cs_sum2 : CallS S E (rSumA S.K) bSum2 := fun HA G H vs ls sb r => by
  unfold bSum2
  split
  · rename_i a
    obtain ⟨x, rfl, r1⟩ := wrs1 r
    split
    · rename_i xs e
      split
      · rename_i ns e1
        have r2 := r1.rd sb e
        obtain ⟨p, us, rfl, h5, r5⟩ := DR.toLst r2
        rw [intsOf_eq e1] at r5
        rw [r5.ints] at h5
        exact okI_now sb fun Q q => ⟨p, ns, rfl, .inl (SqL.of h5), q⟩
      · exact EvG.stk
    · rename_i xs e
      split
      · rename_i ns e1
        have r2 := r1.rd sb e
        obtain ⟨p, us, rfl, h5, r5⟩ := DR.toTup r2
        rw [intsOf_eq e1] at r5
        rw [r5.ints] at h5
        exact okI_now sb fun Q q => ⟨p, ns, rfl, .inr h5, q⟩
      · exact EvG.stk
    · exact EvG.stk
  · exact EvG.stk
theorem wr_list {HA G H : Hp} {v : V} {l : L} {ds : List D} (h : WR S HA G H v l) (sb : Sb G H) (e : l.rd = .ok (.list ds)) : ∃ p us, v = .ref p ∧ H p = some (.lst us) ∧ DRs S.K G us ds := by
  cases l with
  | un => cases e
  | d y =>
    cases e
    obtain ⟨p, us, rfl, h5, r5⟩ := DR.toLst h
    exact ⟨p, us, rfl, sb.xt.lst h5, r5⟩
  | own xs =>
    cases e
    obtain ⟨p, us, rfl, a, r⟩ := h
    exact ⟨p, us, rfl, a, r⟩
  | fr xs =>
    cases e
    obtain ⟨p, us, rfl, _, _, a, r⟩ := h
    exact ⟨p, us, rfl, a, r⟩
theorem cs_sorted2 : CallS S E (fun vs H Q => rSortedI S.K vs H Q ∨ rSortD S.K vs H Q) bSorted2 := fun HA G H vs ls sb r => by
  unfold bSorted2
  split
  · rename_i a
    obtain ⟨x, rfl, r1⟩ := wrs1 r
    split
    · rename_i ns e1
      have h := cs_sorted (S := S) (E := E) HA G H [x] [a] sb (.cons r1 .nil)
      unfold bSorted at h
      simp only [e1] at h
      exact h.imp fun Q q => .inl q
    · split
      · rename_i ds e
        split
        · rename_i hb
          obtain ⟨h1, h2, h3⟩ := sortB_ok hb
          obtain ⟨p, us, rfl, hp, r5⟩ := wr_list r1 sb e
          obtain ⟨l, rfl, rfl, h4⟩ := drs_zip r5
          have key : sortD (l.map (·.2)) = (l.mergeSort (PySem.W.dataLe false (·.2))).map (·.2) := (List.map_mergeSort (r := PySem.W.dataLe false (fun p : V × D => p.2)) (s := PySem.W.dataLe false id) (f := fun p : V × D => p.2) (l := l) fun a _ b _ => rfl).symm
          rw [key]
          refine ev_newL sb (zip_drs fun p hp => h4 p (List.mem_mergeSort.mp hp)) fun Q q => .inr ⟨p, l, rfl, SqL.of hp, fun p hp => ?_, h1, h2, fun p hp => SeqAt.depth_of_shaped (h3 _ (List.mem_map_of_mem hp)), q⟩
          have sh := h3 _ (List.mem_map_of_mem hp)
          exact DR.dp _ _ (DR.up (h4 p hp) sb.xt) (SeqAt.canLay_of_shaped sh)
        · exact EvG.stk
      · exact EvG.stk
  · exact EvG.stk
end
end PD
/-! a text's reading, by a function of the text -/
namespace PD
open PySem PySem.Spec PyProof.Rows L2
def posN : List Str → Str → Nat → Option Nat
  | [], _, _ => none
  | y :: ys, x, n => if y = x then some n else posN ys x (n + 1)
theorem posN_ok : ∀ {ys : List Str} {x : Str} {n i : Nat}, posN ys x n = some i → n ≤ i ∧ ys[i - n]? = some x
  | [], _, _, _, h => by cases h
  | y :: ys, x, n, i, h => by
    unfold posN at h
    split at h
    · rename_i e
      cases h
      subst e
      exact ⟨Nat.le_refl _, by simp⟩
    · obtain ⟨h1, h2⟩ := posN_ok h
      refine ⟨by omega, ?_⟩
      have e : i - n = (i - (n + 1)) + 1 := by omega
      rw [e]
      simpa using h2
def pos0 (N : List Str) (x : Str) : Option Nat := posN N x 0
theorem pos0_ok {N : List Str} {x : Str} {i : Nat} (h : pos0 N x = some i) : N[i]? = some x := by
  have h2 := (posN_ok h).2
  simpa using h2
def visB (sc : SC) (x : Str) : Bool := (match sc.sc.names.lookup x with
  | some .local => true
  | some .cell => true
  | some .free => true
  | _ => false) && (!(x == ("__debug__" : Str)) && !(x == ("__classdict__" : Str)))
theorem visB_ok {sc : SC} {x : Str} (h : visB sc x = true) : Vis sc.sc x ∧ (x == ("__debug__" : Str)) = false ∧ (x == ("__classdict__" : Str)) = false := by
  unfold visB at h
  rw [Bool.and_eq_true, Bool.and_eq_true, Bool.not_eq_true', Bool.not_eq_true'] at h
  refine ⟨?_, h.2⟩
  have h1 := h.1
  unfold Vis
  split at h1
  · rename_i e; exact .inl e
  · rename_i e; exact .inr (.inl e)
  · rename_i e; exact .inr (.inr e)
  · cases h1
structure Rec where
  E : SC → Expr → Option EF
  T : SC → Expr → Option TF
/-- a built-in's name that nobody took -/
def bltB (cc : CC) (sc : SC) (x : Str) : Bool := glB sc x && (cc.fns.all (fun e => !(e.x == x)) && decide (x ∈ bltNames))
def compA (r : Expr → Option EF) : List Expr → Option AF
  | [] => some aNil
  | e :: es => if notStar e then (match r e, compA r es with
    | some f, some g => some (aCons f g)
    | _, _ => none) else none
def frzR (r : Expr → Option EF) (e : Expr) : Option EF := (r e).map eFz
def binS : Operator → Option (L → L → M L)
  | .Add => some opAdd
  | .Sub => some opSub
  | .Mult => some opMul
  | .FloorDiv => some opDiv
  | .Mod => some opMod
  | .Pow => some opPow
  | _ => none
def opIs (neg : Bool) (a b : L) : M L := match b with
  | .d .none => opIsN neg a
  | _ => opIsB neg a b
def cmpS : CmpOp → Option (L → L → M L)
  | .Eq => some (opEq false)
  | .NotEq => some (opEq true)
  | .Lt => some opLt
  | .LtE => some opLe
  | .Gt => some opGt
  | .GtE => some opGe
  | .In => some (opIn false)
  | .NotIn => some (opIn true)
  | .Is => some (opIs false)
  | .IsNot => some (opIs true)
def tyNames : List Str := ["int", "bool", "str", "list", "tuple"]
def tyOfD : D → String
  | .none => "NoneType"
  | .bool _ => "bool"
  | .int _ => "int"
  | .str _ => "str"
  | .list _ => "list"
  | .tuple _ => "tuple"
  | .dict _ => "dict"
def tyStr (T : Str) : String := if T = "int" then "int" else if T = "bool" then "bool" else if T = "str" then "str" else if T = "list" then "list" else "tuple"
def isiS (T s : String) : Bool := decide (s = T) || (decide (s = "bool") && decide (T = "int"))
def isiD (T : Str) (d : D) : Bool := isiS (tyStr T) (tyOfD d)
def opIsi (T : Str) (a : L) : M L := match a.rd with
  | .ok (.dict _) => .stuck
  | .ok d => okB (isiD T d)
  | _ => .stuck
def lstRg : IF → EF := fun g env => (g env).bind fun xs => if xs.length ≤ cap then .ok (.fr xs) else .stuck
def tupRg : IF → EF := fun g env => (g env).bind fun xs => if xs.length ≤ cap then .ok (.d (.tuple xs)) else .stuck
def isRange : Expr → Bool
  | .Call (.Name x _) _ [] _ => x == ("range" : Str)
  | _ => false
def rgA (r : Expr → Option EF) : Expr → Option IF
  | .Call (.Name _ _) [a] [] _ => if notStar a then (r a).map iR1 else none
  | .Call (.Name _ _) [a, b] [] _ => if notStar a && notStar b then (match r a, r b with
    | some f, some g => some (iR2 f g)
    | _, _ => none) else none
  | _ => none
def biOp (x : Str) : Option (List L → M L) :=
  if x = "len" then some bLen
  else if x = "int" then some bInt
  else if x = "list" then some bList
  else if x = "tuple" then some bTuple
  else if x = "sum" then some bSum2
  else if x = "all" then some bAll
  else if x = "any" then some bAny
  else if x = "max" then some bMax
  else if x = "min" then some bMin
  else if x = "sorted" then some bSorted2
  else if x = "abs" then some bAbs
  else none
def compBi (cc : CC) (sc : SC) (r : Expr → Option EF) (x : Str) (es : List Expr) : Option EF :=
  if x = "isinstance" then (match es with
    | [a, .Name T _] => if notStar a && (decide (T ∈ tyNames) && (bltB cc sc "isinstance" && bltB cc sc T)) then (r a).map (eUn (opIsi T)) else none
    | _ => none)
  else match es with
    | [e] => if isRange e && (bltB cc sc "range" && bltB cc sc x) then (if x = "list" then (rgA r e).map lstRg else if x = "tuple" then (rgA r e).map tupRg else none)
      else if bltB cc sc x then (match biOp x, compA r [e] with
        | some o, some g => some (eBi o g)
        | _, _ => none) else none
    | [e, e2] => if (x = "max" ∨ x = "min") ∧ bltB cc sc x = true then (match biOp x, compA r [e, e2] with
        | some o, some g => some (eBi o g)
        | _, _ => none) else none
    | _ => none
/-- what is walked, from a target's view -/
def compI (cc : CC) (sc : SC) (r : Expr → Option EF) (tg : Expr) : Expr → Option IF
  | .Call (.Name x p) es [] pos =>
    if x = "range" then (if bltB cc sc "range" then (match es with
      | [a] => if notStar a then (r a).map iR1 else none
      | [a, b] => if notStar a && notStar b then (match r a, r b with
        | some f, some g => some (iR2 f g)
        | _, _ => none) else none
      | [a, b, .UnaryOp .USub (.Constant (.int 1) _ _) _] => if notStar a && notStar b then (match r a, r b with
        | some f, some g => some (iR3 f g)
        | _, _ => none) else none
      | _ => none) else none)
    else if x = "enumerate" then (if bltB cc sc "enumerate" && isTupE tg then (match es with
      | [a] => if notStar a then (r a).map iEn else none
      | _ => none) else none)
    else if x = "zip" then (if bltB cc sc "zip" && isTupE tg then (match es with
      | [a, b] => if notStar a && notStar b then (match r a, r b with
        | some f, some g => some (iZp f g)
        | _, _ => none) else none
      | _ => none) else none)
    else (r (.Call (.Name x p) es [] pos)).map iEx
  | e => (r e).map iEx
/-- a target: its slots, its store -/
def compGs (r : Expr → Option (List Nat × GF)) : List Expr → Option (List Nat × List GF)
  | [] => some ([], [])
  | t :: ts => if notStar t then (match r t, compGs r ts with
    | some a, some b => some (a.1 ++ b.1, a.2 :: b.2)
    | _, _ => none) else none
def compG (cc : CC) (sc : SC) : Nat → Expr → Option (List Nat × GF)
  | 0, _ => none
  | n + 1, e => match e with
    | .Name x _ => if locB sc x then (pos0 cc.N x).map fun i => ([i], gNm i) else none
    | .Tuple ts _ _ => (compGs (compG cc sc n) ts).map fun p => (p.1, gTp p.2)
    | _ => none
structure LcP where
  own : List (Str × Nat)
  sl : List Nat
  it : IF
  g : GF
  t : TF
  el : EF
def ownOf (cc : CC) (scope : Scope) : List (Str × Nat) := scope.names.filterMap fun y => match y.2 with
  | .local => (pos0 cc.N y.1).map fun i => (y.1, i)
  | .cell => (pos0 cc.N y.1).map fun i => (y.1, i)
  | _ => none
def compTs (r : Expr → Option TF) : List Expr → Option TF
  | [] => some tTrue
  | [c] => r c
  | _ => none
def compLc (cc : CC) (sc : SC) (r : Rec) (elt tg iter : Expr) (ifs : List Expr) (scope : Scope) : Option LcP :=
  if notSet iter && blkC cc.N sc.sc scope (ownOf cc scope) then (match compI cc sc (r.E sc) tg iter, compG cc (blkSC scope sc) 3 tg, compTs (r.T (blkSC scope sc)) ifs, r.E (blkSC scope sc) elt with
    | some it, some g, some t, some el => if g.1.all fun i => decide (i ∈ (ownOf cc scope).map (·.2)) then some ⟨ownOf cc scope, g.1, it, g.2, t, el⟩ else none
    | _, _, _, _ => none) else none
def compAnd (r : Expr → Option EF) : List Expr → Option EF
  | [] => none
  | a :: rest => match rest with
    | [] => r a
    | _ => (match r a, compAnd r rest with
      | some f, some g => some (eAn f g)
      | _, _ => none)
def compOr (r : Expr → Option EF) : List Expr → Option EF
  | [] => none
  | a :: rest => match rest with
    | [] => r a
    | _ => (match r a, compOr r rest with
      | some f, some g => some (eOr f g)
      | _, _ => none)
def compAndT (r : Expr → Option TF) : List Expr → Option TF
  | [] => none
  | a :: rest => match rest with
    | [] => r a
    | _ => (match r a, compAndT r rest with
      | some f, some g => some (tAn f g)
      | _, _ => none)
def compOrT (r : Expr → Option TF) : List Expr → Option TF
  | [] => none
  | a :: rest => match rest with
    | [] => r a
    | _ => (match r a, compOrT r rest with
      | some f, some g => some (tOr f g)
      | _, _ => none)
def compO (r : Expr → Option EF) : Option Expr → Option OF
  | none => some oNone
  | some e => (r e).map oSome
def constD : Const → Option D
  | .int i => some (.int i)
  | .bool b => some (.bool b)
  | .none => some .none
  | .str x => some (.str x)
  | _ => none
def isM1 : Expr → Bool
  | .UnaryOp .USub (.Constant (.int 1) _ _) _ => true
  | _ => false
def compSub (r : Expr → Option EF) (a : Expr) : Expr → Option EF
  | .Slice lo hi st _ => match st with
    | none => (match r a, compO r lo, compO r hi with
      | some f, some g, some h => some (eSl f g h)
      | _, _, _ => none)
    | some m => (match lo, hi with
      | none, none => if isM1 m then (r a).map (eUn opRev) else none
      | _, _ => none)
  | i => match r a, r i with
    | some f, some g => some (eBin opIx f g)
    | _, _ => none
def compCall (cc : CC) (sc : SC) (r : Expr → Option EF) (x : Str) (es : List Expr) : Option EF :=
  match cc.fns.find? fun e => decide (e.x = x) with
  | some fe => (match es with
    | [] => none
    | e :: rest => if glB sc x && (decide ((e :: rest).length = fe.n) && (e :: rest).all notStar) then (compA (frzR r) (e :: rest)).map (eCall fe.f) else none)
  | none => compBi cc sc r x es
def compCmp (r : Expr → Option EF) (a : Expr) (ops : List CmpOp) (bs : List Expr) : Option EF := match ops, bs with
  | [op], [b] => (match cmpS op, r a, r b with
    | some o, some f, some g => if behindInMarks op b then none else some (eBin o f g)
    | _, _, _ => none)
  | [op, op'], [b, c] => (match cmpS op, cmpS op', r a, r b, r c with
    | some o, some o', some f, some g, some h => if lastMarks [op, op'] [b, c] then none else some (eChain o o' f g h)
    | _, _, _, _, _ => none)
  | _, _ => none
def stepE (cc : CC) (r : Rec) (sc : SC) : Expr → Option EF
  | .Constant c _ _ => (constD c).map eC
  | .Name x _ => if visB sc x then (pos0 cc.N x).map eVar else if glB sc x then (cc.con.lookup x).map eC else none
  | .BinOp a op b _ => (match binS op, r.E sc a, r.E sc b with
    | some o, some f, some g => some (eBin o f g)
    | _, _, _ => none)
  | .UnaryOp op a _ => (match op with
    | .USub => (match a with
      | .Constant (.int 1) _ _ => some (eC (.int (-1)))
      | _ => none)
    | .Not => (r.E sc a).map eNt
    | _ => none)
  | .BoolOp op es _ => (match op with
    | .And => compAnd (r.E sc) es
    | .Or => compOr (r.E sc) es)
  | .Compare a ops bs _ => compCmp (r.E sc) a ops bs
  | .IfExp c a b _ => (match r.T sc c, r.E sc a, r.E sc b with
    | some t, some f, some g => some (eIf t f g)
    | _, _, _ => none)
  | .Tuple es _ _ => (compA (frzR (r.E sc)) es).map eTup
  | .List es _ => (compA (frzR (r.E sc)) es).map eLst
  | .Subscript a i _ => compSub (r.E sc) a i
  | .ListComp elt gs scope _ => (match gs with
    | [⟨tg, iter, ifs, 0⟩] => (compLc cc sc r elt tg iter ifs scope).map fun p => eLc (p.own.map (·.2)) p.it p.g p.t p.el
    | _ => none)
  | .Call f es kw _ => (match f, kw with
    | .Name x _, [] => compCall cc sc (r.E sc) x es
    | _, _ => none)
  | _ => none
def stepT (cc : CC) (r : Rec) (sc : SC) : Expr → Option TF
  | .UnaryOp op a _ => (match op with
    | .Not => (r.T sc a).map tNt
    | _ => none)
  | .BoolOp op es _ => (match op with
    | .And => compAndT (r.T sc) es
    | .Or => compOrT (r.T sc) es)
  | .Compare a ops bs _ => (compCmp (r.E sc) a ops bs).map tVal
  | .IfExp _ _ _ _ => none
  | e => (r.E sc e).map tVal
def recN (cc : CC) : Nat → Rec
  | 0 => ⟨fun _ _ => none, fun _ _ => none⟩
  | n + 1 => ⟨stepE cc (recN cc n), stepT cc (recN cc n)⟩
/-! ### it tells the truth -/
section
variable {S : Sys} {k : Nat} {E : XK} {cc : CC} {sc : SC}
structure RecOk (S : Sys) (k : Nat) (cc : CC) (r : Rec) : Prop where
  e : ∀ E sc e f, r.E sc e = some f → CE S k E cc sc e f
  t : ∀ E sc e f, r.T sc e = some f → CT S k E cc sc e f
theorem compA_ok {r : Expr → Option EF} (h : ∀ e f, r e = some f → CE S k E cc sc e f) : ∀ {es : List Expr} {g : AF}, compA r es = some g → CA S k E cc sc es g ∧ es.all notStar = true ∧ ∀ env ls, g env = .ok ls → ls.length = es.length
  | [], g, e => by
    cases e
    exact ⟨ca_nil, rfl, fun env ls h => by cases h; rfl⟩
  | a :: es, g, e => by
    unfold compA at e
    split at e
    · rename_i hs
      split at e
      · rename_i f g' e1 e2
        cases e
        obtain ⟨h1, h2, h3⟩ := compA_ok h e2
        refine ⟨ca_cons hs (h _ _ e1) h1, by rw [List.all_cons, hs, h2]; rfl, fun env ls hh => ?_⟩
        have hh' : ((f env).bind fun a => (g' env).bind fun b => .ok (a :: b)) = M.ok ls := hh
        cases e3 : f env with
        | stuck => rw [e3] at hh'; cases hh'
        | ex c => rw [e3] at hh'; cases hh'
        | ok l =>
          rw [e3] at hh'
          cases e4 : g' env with
          | stuck => simp only [M.ok_bind, e4] at hh'; cases hh'
          | ex c => simp only [M.ok_bind, e4] at hh'; cases hh'
          | ok ls' =>
            simp only [M.ok_bind, e4] at hh'
            cases hh'
            rw [List.length_cons, h3 env ls' e4, List.length_cons]
      · cases e
    · cases e
theorem frzR_ok {r : Expr → Option EF} (h : ∀ e f, r e = some f → CE S k E cc sc e f) : ∀ e f, frzR r e = some f → CE S k E cc sc e f := fun e f he => by
  unfold frzR at he
  cases e1 : r e with
  | none => rw [e1] at he; cases he
  | some g =>
    rw [e1] at he
    cases he
    exact ce_fz (h _ _ e1)
theorem map_ok {α β : Type} {o : Option α} {f : α → β} {b : β} (h : o.map f = some b) : ∃ a, o = some a ∧ f a = b := by
  cases o with
  | none => cases h
  | some a => exact ⟨a, rfl, Option.some.inj h⟩
theorem binS_ok {op : Operator} {o : L → L → M L} {a b : Expr} {f g : EF} {pos : Pos} (h : binS op = some o) (ha : CE S k E cc sc a f) (hb : CE S k E cc sc b g) : CE S k E cc sc (.BinOp a op b pos) (eBin o f g) := by
  cases op <;> first | (cases h; done) | skip
  all_goals cases h
  · exact ce_op (r := rAdd S.K) (fun X c ta tb pa pb => by rw [← c.K]; exact pe_op or_add pa pb) os_add ha hb
  · exact ce_op (fun X c ta tb pa pb => pe_op op_sub pa pb) os_sub ha hb
  · exact ce_op (fun X c ta tb pa pb => pe_op or_mul pa pb) os_mul ha hb
  · exact ce_op (fun X c ta tb pa pb => pe_op op_mod pa pb) os_mod ha hb
  · exact ce_op (fun X c ta tb pa pb => pe_op op_pow pa pb) os_pow ha hb
  · exact ce_op (fun X c ta tb pa pb => pe_op op_fdivW pa pb) os_div ha hb
end
end PD
/-! the reading tells the truth: expressions -/
namespace PD
open PySem PySem.Spec PyProof.Rows L2
section
variable {S : Sys} {k : Nat} {E : XK} {cc : CC} {sc : SC}
theorem CtxOk.hu {X : Cx} (c : CtxOk S k E cc sc X) : X.A.units + 64 < cLine := by have := c.room.un; omega
theorem CtxOk.hu1 {X : Cx} (c : CtxOk S k E cc sc X) : X.A.units + 65 < cLine := by have := c.room.un; omega
theorem CtxOk.hu0 {X : Cx} (c : CtxOk S k E cc sc X) : X.A.units < cLine := by have := c.room.un; omega
def rIs2 (neg : Bool) : R2 := fun x y H Q => (y = .non ∧ Q (.bl (if neg then !decide (x = .non) else decide (x = .non))) H) ∨ (∃ a b : Bool, x = .bl a ∧ y = .bl b ∧ Q (.bl (if neg then !decide (a = b) else decide (a = b))) H)
theorem os_is {neg : Bool} : OpS S E (rIs2 neg) (opIs neg) := fun HA HB G H x y a b sb ra rb => by
  unfold opIs
  split
  · have e := DR.toNon rb
    subst e
    exact EvG.imp (us_isN HA G H x a sb ra) fun Q q => .inl ⟨rfl, q⟩
  · exact EvG.imp (os_isB HA HB G H x y a b sb ra rb) fun Q q => .inr q
theorem cmpS_ok {op : CmpOp} {o : L → L → M L} (h : cmpS op = some o) : ∃ r : R2, (∀ X, CtxOk S k E cc sc X → OpR X (compareOp op) r) ∧ OpS S E r o := by
  cases op <;> cases h
  · exact ⟨_, fun X c => by rw [← c.K]; exact op_eqD c.hu, os_eq⟩
  · exact ⟨_, fun X c => by rw [← c.K]; exact op_neD c.hu, os_ne⟩
  · exact ⟨rLt S.K, fun X c => by rw [← c.K]; exact op_lt.or (op_ltT c.hu0), os_lt⟩
  · exact ⟨rLe S.K, fun X c => by rw [← c.K]; exact op_le.or (op_leT c.hu0), os_le⟩
  · exact ⟨_, fun X c => op_gt, os_gt⟩
  · exact ⟨_, fun X c => op_ge, os_ge⟩
  · exact ⟨rIs2 false, fun X c => op_isN.or op_isBl, os_is⟩
  · exact ⟨rIs2 true, fun X c => op_notN.or op_notBl, os_is⟩
  · exact ⟨rIn2 S.K false, fun X c => by rw [← c.K]; exact op_in_seq.or (op_inD c.hu1), os_in⟩
  · exact ⟨rIn2 S.K true, fun X c => by rw [← c.K]; exact op_notIn_seq.or (op_notInD c.hu1), os_in⟩
theorem compCmp_ok {r : Expr → Option EF} (h : ∀ e f, r e = some f → CE S k E cc sc e f) {a : Expr} {ops : List CmpOp} {bs : List Expr} {f : EF} {pos : Pos} (e : compCmp r a ops bs = some f) :
    CE S k E cc sc (.Compare a ops bs pos) f ∧ CT S k E cc sc (.Compare a ops bs pos) (tVal f) := by
  unfold compCmp at e
  split at e
  · rename_i op b
    split at e
    · rename_i o f1 g1 e1 e2 e3
      split at e
      · cases e
      · rename_i hm
        cases e
        obtain ⟨rr, h1, h2⟩ := cmpS_ok (S := S) (k := k) (E := E) (cc := cc) (sc := sc) e1
        have hm' := Bool.eq_false_iff.mpr hm
        exact ⟨ce_cmp h1 h2 hm' (h _ _ e2) (h _ _ e3), ct_cmp h1 h2 hm' (h _ _ e2) (h _ _ e3)⟩
    · cases e
  · rename_i op op' b c
    split at e
    · rename_i o o' f1 g1 h1 e1 e2 e3 e4 e5
      split at e
      · cases e
      · rename_i hm
        cases e
        obtain ⟨rr, p1, p2⟩ := cmpS_ok (S := S) (k := k) (E := E) (cc := cc) (sc := sc) e1
        obtain ⟨rr', q1, q2⟩ := cmpS_ok (S := S) (k := k) (E := E) (cc := cc) (sc := sc) e2
        have hm' := Bool.eq_false_iff.mpr hm
        exact ⟨ce_chain p1 q1 p2 q2 hm' (h _ _ e3) (h _ _ e4) (h _ _ e5), ct_chain p1 q1 p2 q2 hm' (h _ _ e3) (h _ _ e4) (h _ _ e5)⟩
    · cases e
  · cases e
theorem bltB_ok {x : Str} (C : CcOk S k cc) (h : bltB cc sc x = true) : glB sc x = true ∧ cc.fns.all (fun e => !(e.x == x)) = true ∧ S.mg x = none := by
  unfold bltB at h
  rw [Bool.and_eq_true, Bool.and_eq_true] at h
  exact ⟨h.1, h.2.1, blt_none C h.2.1 (of_decide_eq_true h.2.2)⟩
/-- a built-in function's, a built-in type's call -/
theorem ce_callB {id : String} {x : Str} {r : List V → Hp → VK → Prop} {op : List L → M L} {e : Expr} {es : List Expr} {g : AF} {p pos : Pos} (C : CcOk S k cc) (hb : bltB cc sc x = true) (hv : bootBuiltins x = some (.builtin id)) (hr : ∀ X, CtxOk S k E cc sc X → CallR X (.builtin id) r) (ho : CallS S E r op)
    (hs : (e :: es).all notStar = true) (h : CA S k E cc sc (e :: es) g) : CE S k E cc sc (.Call (.Name x p) (e :: es) [] pos) (eBi op g) := by
  obtain ⟨b1, b2, b3⟩ := bltB_ok C hb
  rw [List.all_cons, Bool.and_eq_true] at hs
  refine ce_bi (fun X c t pa => ?_) ho h
  obtain ⟨g1, g2, g3⟩ := glB_ok c b1
  exact pe_callB (hr X c) g1 (by rw [c.mg]; exact b3) hv pa g3 g2 (star_cons hs.1) (by rw [back_any]; exact star_any hs.2)
theorem ce_callTy {T : String} {x : Str} {r : List V → Hp → VK → Prop} {op : List L → M L} {e : Expr} {es : List Expr} {g : AF} {p pos : Pos} (C : CcOk S k cc) (hb : bltB cc sc x = true) (hv : bootBuiltins x = some (.type T)) (hr : ∀ X, CtxOk S k E cc sc X → CallR X (.type T) r) (ho : CallS S E r op)
    (hs : (e :: es).all notStar = true) (h : CA S k E cc sc (e :: es) g) : CE S k E cc sc (.Call (.Name x p) (e :: es) [] pos) (eBi op g) := by
  obtain ⟨b1, b2, b3⟩ := bltB_ok C hb
  rw [List.all_cons, Bool.and_eq_true] at hs
  refine ce_bi (fun X c t pa => ?_) ho h
  obtain ⟨g1, g2, g3⟩ := glB_ok c b1
  exact pe_callTy (hr X c) g1 (by rw [c.mg]; exact b3) hv pa g3 g2 (star_cons hs.1) (by rw [back_any]; exact star_any hs.2)
theorem biOp_ok {x : Str} {o : List L → M L} {e : Expr} {es : List Expr} {g : AF} {p pos : Pos} (C : CcOk S k cc) (h : biOp x = some o) (hb : bltB cc sc x = true) (hs : (e :: es).all notStar = true) (hg : CA S k E cc sc (e :: es) g) : CE S k E cc sc (.Call (.Name x p) (e :: es) [] pos) (eBi o g) := by
  unfold biOp at h
  split at h
  · rename_i ex; subst ex; cases h
    exact ce_callB C hb PySem.boot_len (fun X c => by rw [← c.K]; exact call_len) cs_len hs hg
  split at h
  · rename_i ex; subst ex; cases h
    exact ce_callTy C hb boot_int (fun X c => call_int1) cs_int hs hg
  split at h
  · rename_i ex; subst ex; cases h
    exact ce_callTy C hb boot_list (fun X c => by rw [← c.K]; exact call_list_of) cs_list hs hg
  split at h
  · rename_i ex; subst ex; cases h
    exact ce_callTy C hb boot_tuple (fun X c => by rw [← c.K]; exact call_tuple_of) cs_tuple hs hg
  split at h
  · rename_i ex; subst ex; cases h
    exact ce_callB (id := "sum") C hb (by decide +kernel) (fun X c => by rw [← c.K]; exact cr_sumA c.calm) cs_sum2 hs hg
  split at h
  · rename_i ex; subst ex; cases h
    exact ce_callB (id := "all") C hb (by decide +kernel) (fun X c => by rw [← c.K]; exact cr_all c.calm) cs_all hs hg
  split at h
  · rename_i ex; subst ex; cases h
    exact ce_callB (id := "any") C hb (by decide +kernel) (fun X c => by rw [← c.K]; exact cr_any c.calm) cs_any hs hg
  split at h
  · rename_i ex; subst ex; cases h
    exact ce_callB (id := "max") C hb (by decide +kernel) (fun X c => by rw [← c.K]; exact (call_max2 c.calm).or (cr_max c.calm)) cs_max hs hg
  split at h
  · rename_i ex; subst ex; cases h
    exact ce_callB (id := "min") C hb (by decide +kernel) (fun X c => by rw [← c.K]; exact (call_min2 c.calm).or (cr_min c.calm)) cs_min hs hg
  split at h
  · rename_i ex; subst ex; cases h
    exact ce_callB (id := "sorted") C hb (by decide +kernel) (fun X c => by
      rw [← c.K]
      intro pins s σ H vs us Q I r h
      rcases h with h | h
      · exact cr_sortedI pins s σ H vs us Q I r h
      · exact cr_sortD (by have := c.room.un; omega) pins s σ H vs us Q I r h) cs_sorted2 hs hg
  split at h
  · rename_i ex; subst ex; cases h
    exact ce_callB (id := "abs") C hb (by decide +kernel) (fun X c => call_abs) cs_abs hs hg
  · cases h
/-- isinstance(x, T) -/
theorem tyx_of {HA G H : Hp} {x : V} {a : L} {d : D} (sb : Sb G H) (ra : WR S HA G H x a) (e : a.rd = .ok d) (hd : ∀ kvs, d ≠ .dict kvs) : TyX S.K H x (.type (tyOfD d)) := by
  have r := ra.rd sb e
  cases r with
  | non => exact .base .non
  | bl b => exact .base (.bl b)
  | int i => exact .base (.int i)
  | str s => exact .base (.str s)
  | lst h1 _ => exact .base (.lst h1)
  | tup h1 _ =>
    rcases h1 with (h1 | ⟨o, h1⟩) | ⟨o, its, n, h1, h2, _⟩
    · exact .base (.tup h1)
    · exact .fTuple h1
    · exact .kTuple h1 h2
  | scr h1 => exact absurd rfl (hd _)
theorem ce_isi {a : Expr} {T : Str} {f : EF} {p p2 pos : Pos} (C : CcOk S k cc) (hs : notStar a = true) (hT : T ∈ tyNames) (hb : bltB cc sc "isinstance" = true) (hb2 : bltB cc sc T = true) (h : CE S k E cc sc a f) : CE S k E cc sc (.Call (.Name "isinstance" p) [a, .Name T p2] [] pos) (eUn (opIsi T) f) := by
  obtain ⟨t, pe, v⟩ := h
  obtain ⟨b1, b2, b3⟩ := bltB_ok C hb
  obtain ⟨d1, d2, d3⟩ := bltB_ok C hb2
  have hboot : bootBuiltins T = some (.type (tyStr T)) := by
    have : T = "int" ∨ T = "bool" ∨ T = "str" ∨ T = "list" ∨ T = "tuple" := by simpa [tyNames] using hT
    rcases this with h | h | h | h | h <;> subst h <;> decide +kernel
  have key : ∀ T ∈ tyNames, ∀ s ∈ ["NoneType", "bool", "int", "str", "list", "tuple"], kitB s (tyStr T) = some (isiS (tyStr T) s) := by decide +kernel
  refine ⟨tCB (rIsi S.K) (tCons t (tCons (tC (.ty (tyStr T))) tNil)), fun X c => ?_, fun H0 G H σ env at0 => ?_⟩
  · obtain ⟨g1, g2, g3⟩ := glB_ok c b1
    obtain ⟨k1, k2, k3⟩ := glB_ok c d1
    rw [← c.K]
    exact pe_callB call_isi g1 (by rw [c.mg]; exact b3) (by decide +kernel) (pa_cons (pe X c) (pa_cons (pe_bltn k1 (by rw [c.mg]; exact d3) hboot rfl k3 k2) pa_nil (star_cons rfl)) (star_cons hs)) g3 g2 (star_cons hs) rfl
  · refine EvG.bind (tq := t σ H) (k := fun x H1 Q => rIsi S.K [x, .ty (tyStr T)] H1 Q) (v H0 G H σ env at0) fun x l G2 H2 _ x2 r2 => ⟨G2, x2, ?_⟩
    unfold opIsi
    split
    · exact EvG.stk
    · rename_i d e hd
      have h1 := tyx_of x2.gh r2 hd (fun kvs z => e kvs z)
      refine okB_now (E := E) x2.gh fun Q q => ⟨x, .ty (tyStr T), .type (tyOfD d), .type (tyStr T), _, rfl, .ty _, h1, kit_ty (key T hT _ ?_), q⟩
      cases d <;> first | (exact absurd rfl (e _)) | simp [tyOfD]
    · exact EvG.stk
end
end PD
/-! the reading tells the truth: expressions, the rest -/
namespace PD
open PySem PySem.Spec PyProof.Rows L2
section
variable {S : Sys} {k : Nat} {E : XK} {cc : CC} {sc : SC}
theorem rgV_D {G : Hp} {lo hi : Int} : DRs S.K G (rgV lo hi) (rngD lo (hi - lo).toNat) := by
  unfold rgV rngD
  exact DRs.map fun i _ => .int _
theorem rngD_len {lo : Int} {n : Nat} : (rngD lo n).length = n := by unfold rngD; rw [List.length_map, List.length_range]
theorem rgOk {i j : Int} (h1 : b62 i = true) (h2 : b62 j = true) (h : (j - i).toNat ≤ cap) : RgOk i j := ⟨(b62_ok h1).1, (b62_ok h1).2, (b62_ok h2).1, (b62_ok h2).2, Nat.le_trans h (by decide)⟩
/-- list(range(..)), tuple(range(..)) -/
theorem ce_lr1 {a : Expr} {f : EF} {p1 p2 p3 pos : Pos} (C : CcOk S k cc) (hb : bltB cc sc "list" = true) (hr : bltB cc sc "range" = true) (hs : notStar a = true) (h : CE S k E cc sc a f) : CE S k E cc sc (.Call (.Name "list" p1) [.Call (.Name "range" p2) [a] [] p3] [] pos) (lstRg (iR1 f)) := by
  obtain ⟨t, pe, v⟩ := h
  obtain ⟨b1, b2, b3⟩ := bltB_ok C hb
  obtain ⟨d1, d2, d3⟩ := bltB_ok C hr
  refine ⟨tLstRg (tRg1 t), fun X c => pe_listRg c.calm (glB_ok c b1).1 (by rw [c.mg]; exact b3) (prg_1 (glB_ok c d1).1 (by rw [c.mg]; exact d3) (pe X c) (star_cons hs)) (star_cons rfl), fun H0 G H σ env at0 => ?_⟩
  have e : lstRg (iR1 f) env = (f env).bind fun l => (int1 (fun j => if b62 j = true then .ok (rngD 0 j.toNat) else .stuck) l).bind fun xs => if xs.length ≤ cap then .ok (.fr xs) else .stuck := by
    unfold lstRg iR1
    cases f env <;> rfl
  rw [e]
  refine EvG.bind (tq := t σ H) (k := fun x H1 (Q : VK) => ∃ n, x = .int n ∧ (RgOk 0 n ∧ ∀ q, H1 q = none → Q (V.ref q) (upd H1 q (.lst (rgV 0 n))))) (v H0 G H σ env at0) fun x l G2 H2 el x2 r2 => ⟨G2, x2, ?_⟩
  clear el
  cases l <;> first | exact EvG.stk | skip
  rename_i d
  cases d <;> first | exact EvG.stk | skip
  rename_i j
  have ex := DR.toInt r2
  subst ex
  show EvG S E (fun _ => WR S H) _ G2 H2 ((if b62 j = true then M.ok (rngD 0 j.toNat) else .stuck).bind fun xs => if xs.length ≤ cap then .ok (.fr xs) else .stuck)
  split
  · rename_i hb
    show EvG S E (fun _ => WR S H) _ G2 H2 (if (rngD 0 j.toNat).length ≤ cap then .ok (.fr (rngD 0 j.toNat)) else .stuck)
    split
    · rename_i hc
      rw [rngD_len] at hc
      have r := rgV_D (S := S) (G := G2) (lo := 0) (hi := j)
      rw [Int.sub_zero] at r
      exact (ev_newL x2.gh r fun Q q => ⟨j, rfl, rgOk (by decide) hb (by rw [Int.sub_zero]; exact hc), q⟩).weak (bk_W S) x2.dom
    · exact EvG.stk
  · exact EvG.stk
theorem ce_tr1 {a : Expr} {f : EF} {p1 p2 p3 pos : Pos} (C : CcOk S k cc) (hb : bltB cc sc "tuple" = true) (hr : bltB cc sc "range" = true) (hs : notStar a = true) (h : CE S k E cc sc a f) : CE S k E cc sc (.Call (.Name "tuple" p1) [.Call (.Name "range" p2) [a] [] p3] [] pos) (tupRg (iR1 f)) := by
  obtain ⟨t, pe, v⟩ := h
  obtain ⟨b1, b2, b3⟩ := bltB_ok C hb
  obtain ⟨d1, d2, d3⟩ := bltB_ok C hr
  refine ⟨tTupRg (tRg1 t), fun X c => pe_tupRg c.calm (glB_ok c b1).1 (by rw [c.mg]; exact b3) (prg_1 (glB_ok c d1).1 (by rw [c.mg]; exact d3) (pe X c) (star_cons hs)) (star_cons rfl), fun H0 G H σ env at0 => ?_⟩
  have e : tupRg (iR1 f) env = (f env).bind fun l => (int1 (fun j => if b62 j = true then .ok (rngD 0 j.toNat) else .stuck) l).bind fun xs => if xs.length ≤ cap then .ok (.d (.tuple xs)) else .stuck := by
    unfold tupRg iR1
    cases f env <;> rfl
  rw [e]
  refine EvG.bind (tq := t σ H) (k := fun x H1 (Q : VK) => ∃ n, x = .int n ∧ (RgOk 0 n ∧ ∀ q, H1 q = none → Q (V.ref q) (upd H1 q (.tup (rgV 0 n))))) (v H0 G H σ env at0) fun x l G2 H2 el x2 r2 => ⟨G2, x2, ?_⟩
  clear el
  cases l <;> first | exact EvG.stk | skip
  rename_i d
  cases d <;> first | exact EvG.stk | skip
  rename_i j
  have ex := DR.toInt r2
  subst ex
  show EvG S E (fun _ => WR S H) _ G2 H2 ((if b62 j = true then M.ok (rngD 0 j.toNat) else .stuck).bind fun xs => if xs.length ≤ cap then .ok (.d (.tuple xs)) else .stuck)
  split
  · rename_i hb
    show EvG S E (fun _ => WR S H) _ G2 H2 (if (rngD 0 j.toNat).length ≤ cap then .ok (.d (.tuple (rngD 0 j.toNat))) else .stuck)
    split
    · rename_i hc
      rw [rngD_len] at hc
      have r := rgV_D (S := S) (G := G2) (lo := 0) (hi := j)
      rw [Int.sub_zero] at r
      exact (ev_newT x2.gh r fun Q q => ⟨j, rfl, rgOk (by decide) hb (by rw [Int.sub_zero]; exact hc), q⟩).weak (bk_W S) x2.dom
    · exact EvG.stk
  · exact EvG.stk
theorem ev_rg2 {t u : TE} {f g : EF} {kk : Int → Int → Hp → VK → Prop} {F : List D → M L} {H0 G H : Hp} {σ : L2.St} {env : List L} (at0 : At S H0 G H σ env) (v : EvW S E t σ G H (f env)) (w : ∀ G2 H2, At S H0 G2 H2 σ env → EvW S E u σ G2 H2 (g env))
    (hk : ∀ (G2 H2 : Hp) i j, Sb G2 H2 → b62 i = true → b62 j = true → EvG S E (WR S) (kk i j H2) G2 H2 (F (rngD i (j - i).toNat))) :
    EvG S E (WR S) (fun Q => t σ H fun x H1 => u σ H1 fun y H2 => ∃ i j, x = .int i ∧ y = .int j ∧ kk i j H2 Q) G H ((iR2 f g env).bind F) := by
  have e : (iR2 f g env).bind F = (f env).bind fun a => (g env).bind fun b => (int1 (fun i => int1 (fun j => if b62 i = true ∧ b62 j = true then .ok (rngD i (j - i).toNat) else .stuck) b) a).bind F := by
    unfold iR2
    cases f env with
    | stuck => rfl
    | ex c => rfl
    | ok a =>
      show ((g env).bind _).bind F = (g env).bind _
      cases g env <;> rfl
  rw [e]
  refine EvG.bind (tq := t σ H) (k := fun x H1 Q => u σ H1 fun y H2 => ∃ i j, x = .int i ∧ y = .int j ∧ kk i j H2 Q) v fun x l G2 H2 el x2 r2 => ⟨G2, x2, ?_⟩
  refine EvG.bind (tq := u σ H2) (k := fun y H2 Q => ∃ i j, x = .int i ∧ y = .int j ∧ kk i j H2 Q) (w G2 H2 (at0.up x2)) fun y l2 G3 H3 el2 x3 r3 => ⟨G3, x3, ?_⟩
  clear el el2
  cases l <;> first | exact EvG.stk | skip
  rename_i d
  cases d <;> first | exact EvG.stk | skip
  rename_i i
  cases l2 <;> first | exact EvG.stk | skip
  rename_i d
  cases d <;> first | exact EvG.stk | skip
  rename_i j
  have ex := DR.toInt r2
  have ey := DR.toInt r3
  subst ex ey
  show EvG S E (fun _ => WR S H) _ G3 H3 ((if b62 i = true ∧ b62 j = true then M.ok (rngD i (j - i).toNat) else .stuck).bind F)
  split
  · rename_i hb
    exact ((hk G3 H3 i j x3.gh hb.1 hb.2).imp fun Q q => ⟨i, j, rfl, rfl, q⟩).weak (bk_W S) fun p h => x2.dom p (x3.dom p h)
  · exact EvG.stk
theorem ce_lr2 {a b : Expr} {f g : EF} {p1 p2 p3 pos : Pos} (C : CcOk S k cc) (hb : bltB cc sc "list" = true) (hr : bltB cc sc "range" = true) (hs : notStar a = true) (hs2 : notStar b = true) (h : CE S k E cc sc a f) (h2 : CE S k E cc sc b g) : CE S k E cc sc (.Call (.Name "list" p1) [.Call (.Name "range" p2) [a, b] [] p3] [] pos) (lstRg (iR2 f g)) := by
  obtain ⟨t, pe, v⟩ := h
  obtain ⟨u, pu, w⟩ := h2
  obtain ⟨b1, b2, b3⟩ := bltB_ok C hb
  obtain ⟨d1, d2, d3⟩ := bltB_ok C hr
  refine ⟨tLstRg (tRg2 t u), fun X c => pe_listRg c.calm (glB_ok c b1).1 (by rw [c.mg]; exact b3) (prg_2 (glB_ok c d1).1 (by rw [c.mg]; exact d3) (pe X c) (pu X c) (by rw [star_cons hs]) (star_cons hs2) (by rw [back_any]; exact star_any (by rw [List.all_cons, hs2]; rfl))) (star_cons rfl), fun H0 G H σ env at0 => ?_⟩
  refine ev_rg2 (kk := fun i j H2 Q => RgOk i j ∧ ∀ q, H2 q = none → Q (V.ref q) (upd H2 q (.lst (rgV i j)))) at0 (v H0 G H σ env at0) (fun G2 H2 a2 => w H0 G2 H2 σ env a2) fun G2 H2 i j sb hi hj => ?_
  split
  · rename_i hc
    rw [rngD_len] at hc
    exact ev_newL sb rgV_D fun Q q => ⟨rgOk hi hj hc, q⟩
  · exact EvG.stk
theorem ce_tr2 {a b : Expr} {f g : EF} {p1 p2 p3 pos : Pos} (C : CcOk S k cc) (hb : bltB cc sc "tuple" = true) (hr : bltB cc sc "range" = true) (hs : notStar a = true) (hs2 : notStar b = true) (h : CE S k E cc sc a f) (h2 : CE S k E cc sc b g) : CE S k E cc sc (.Call (.Name "tuple" p1) [.Call (.Name "range" p2) [a, b] [] p3] [] pos) (tupRg (iR2 f g)) := by
  obtain ⟨t, pe, v⟩ := h
  obtain ⟨u, pu, w⟩ := h2
  obtain ⟨b1, b2, b3⟩ := bltB_ok C hb
  obtain ⟨d1, d2, d3⟩ := bltB_ok C hr
  refine ⟨tTupRg (tRg2 t u), fun X c => pe_tupRg c.calm (glB_ok c b1).1 (by rw [c.mg]; exact b3) (prg_2 (glB_ok c d1).1 (by rw [c.mg]; exact d3) (pe X c) (pu X c) (by rw [star_cons hs]) (star_cons hs2) (by rw [back_any]; exact star_any (by rw [List.all_cons, hs2]; rfl))) (star_cons rfl), fun H0 G H σ env at0 => ?_⟩
  refine ev_rg2 (kk := fun i j H2 Q => RgOk i j ∧ ∀ q, H2 q = none → Q (V.ref q) (upd H2 q (.tup (rgV i j)))) at0 (v H0 G H σ env at0) (fun G2 H2 a2 => w H0 G2 H2 σ env a2) fun G2 H2 i j sb hi hj => ?_
  split
  · rename_i hc
    rw [rngD_len] at hc
    exact ev_newT sb rgV_D fun Q q => ⟨rgOk hi hj hc, q⟩
  · exact EvG.stk
theorem isRange_ok {e : Expr} (h : isRange e = true) : ∃ p es pos, e = .Call (.Name "range" p) es [] pos := by
  unfold isRange at h
  split at h
  · rename_i x p es pos
    have h' : x = ("range" : Str) := eq_of_beq h
    subst h'
    exact ⟨_, _, _, rfl⟩
  · cases h
theorem and2 {a b : Bool} (h : (a && b) = true) : a = true ∧ b = true := Bool.and_eq_true_iff.mp h
theorem compBi_ok {r : Expr → Option EF} (C : CcOk S k cc) (h : ∀ e f, r e = some f → CE S k E cc sc e f) {x : Str} {es : List Expr} {f : EF} {p pos : Pos} (e : compBi cc sc r x es = some f) : CE S k E cc sc (.Call (.Name x p) es [] pos) f := by
  unfold compBi at e
  split at e
  · rename_i ex
    subst ex
    split at e
    · rename_i a T p2
      split at e
      · rename_i hc
        obtain ⟨c1, c2⟩ := and2 hc
        obtain ⟨c2, c3⟩ := and2 c2
        obtain ⟨c3, c4⟩ := and2 c3
        obtain ⟨g, hg, rfl⟩ := map_ok e
        exact ce_isi C c1 (of_decide_eq_true c2) c3 c4 (h _ _ hg)
      · cases e
    · cases e
  · split at e
    · rename_i e1
      split at e
      · rename_i hc
        obtain ⟨c1, c23⟩ := and2 hc
        obtain ⟨c2, c3⟩ := and2 c23
        clear hc c23
        obtain ⟨p2, es2, pos2, rfl⟩ := isRange_ok c1
        split at e
        · rename_i ex
          subst ex
          obtain ⟨g, hg, rfl⟩ := map_ok e
          unfold rgA at hg
          split at hg
          · rename_i a _ heq
            cases heq
            split at hg
            · rename_i hs
              obtain ⟨f1, hf1, rfl⟩ := map_ok hg
              exact ce_lr1 C c3 c2 hs (h _ _ hf1)
            · cases hg
          · rename_i a b _ heq
            cases heq
            split at hg
            · rename_i hs
              obtain ⟨s1, s2⟩ := and2 hs
              split at hg
              · rename_i f1 g1 hf1 hg1
                cases hg
                exact ce_lr2 C c3 c2 s1 s2 (h _ _ hf1) (h _ _ hg1)
              · cases hg
            · cases hg
          · cases hg
        · split at e
          · rename_i ex
            subst ex
            obtain ⟨g, hg, rfl⟩ := map_ok e
            unfold rgA at hg
            split at hg
            · rename_i a _ heq
              cases heq
              split at hg
              · rename_i hs
                obtain ⟨f1, hf1, rfl⟩ := map_ok hg
                exact ce_tr1 C c3 c2 hs (h _ _ hf1)
              · cases hg
            · rename_i a b _ heq
              cases heq
              split at hg
              · rename_i hs
                obtain ⟨s1, s2⟩ := and2 hs
                split at hg
                · rename_i f1 g1 hf1 hg1
                  cases hg
                  exact ce_tr2 C c3 c2 s1 s2 (h _ _ hf1) (h _ _ hg1)
                · cases hg
              · cases hg
            · cases hg
          · cases e
      · split at e
        · rename_i hb
          split at e
          · rename_i o g ho hg
            cases e
            obtain ⟨h1, h2, _⟩ := compA_ok h hg
            exact biOp_ok C ho hb h2 h1
          · cases e
        · cases e
    · rename_i e1 e2
      split at e
      · rename_i hc
        split at e
        · rename_i o g ho hg
          cases e
          obtain ⟨h1, h2, _⟩ := compA_ok h hg
          exact biOp_ok C ho hc.2 h2 h1
        · cases e
      · cases e
    · cases e
theorem isTupE_ok {e : Expr} (h : isTupE e = true) : ∃ ts n p, e = .Tuple ts n p := by
  cases e <;> first | (cases h; done) | exact ⟨_, _, _, rfl⟩
theorem compI_ok {r : Expr → Option EF} (C : CcOk S k cc) (h : ∀ e f, r e = some f → CE S k E cc sc e f) {tg it : Expr} {f : IF} (e : compI cc sc r tg it = some f) : CI S k E cc sc tg it f := by
  unfold compI at e
  split at e
  · rename_i x p es pos
    split at e
    · rename_i ex
      subst ex
      split at e
      · rename_i hb
        obtain ⟨b1, b2, b3⟩ := bltB_ok C hb
        split at e
        · rename_i a
          split at e
          · rename_i hs
            obtain ⟨g, hg, rfl⟩ := map_ok e
            exact ci_range1 C b2 b1 hs (h _ _ hg)
          · cases e
        · rename_i a b
          split at e
          · rename_i hs
            obtain ⟨s1, s2⟩ := and2 hs
            split at e
            · rename_i f1 g1 hf1 hg1
              cases e
              exact ci_range2 C b2 b1 s1 s2 (h _ _ hf1) (h _ _ hg1)
            · cases e
          · cases e
        · rename_i a b n p1 p2
          split at e
          · rename_i hs
            obtain ⟨s1, s2⟩ := and2 hs
            split at e
            · rename_i f1 g1 hf1 hg1
              cases e
              exact ci_range3 C b2 b1 s1 s2 (h _ _ hf1) (h _ _ hg1)
            · cases e
          · cases e
        · cases e
      · cases e
    · split at e
      · rename_i ex
        subst ex
        split at e
        · rename_i hb
          obtain ⟨hb, ht⟩ := and2 hb
          obtain ⟨b1, b2, b3⟩ := bltB_ok C hb
          obtain ⟨ts, n, tp, rfl⟩ := isTupE_ok ht
          split at e
          · rename_i a
            split at e
            · rename_i hs
              obtain ⟨g, hg, rfl⟩ := map_ok e
              exact ci_enum C b2 b1 hs (h _ _ hg)
            · cases e
          · cases e
        · cases e
      · split at e
        · rename_i ex
          subst ex
          split at e
          · rename_i hb
            obtain ⟨hb, ht⟩ := and2 hb
            obtain ⟨b1, b2, b3⟩ := bltB_ok C hb
            obtain ⟨ts, n, tp, rfl⟩ := isTupE_ok ht
            split at e
            · rename_i a b
              split at e
              · rename_i hs
                obtain ⟨s1, s2⟩ := and2 hs
                split at e
                · rename_i f1 g1 hf1 hg1
                  cases e
                  exact ci_zip C b2 b1 s1 s2 (h _ _ hf1) (h _ _ hg1)
                · cases e
              · cases e
            · cases e
          · cases e
        · obtain ⟨g, hg, rfl⟩ := map_ok e
          exact ci_ex (h _ _ hg)
  · obtain ⟨g, hg, rfl⟩ := map_ok e
    exact ci_ex (h _ _ hg)
theorem compGs_ok {r : Expr → Option (List Nat × GF)} (h : ∀ e f, r e = some f → CG S k E cc sc e f.1 f.2) : ∀ {ts : List Expr} {f : List Nat × List GF}, compGs r ts = some f → CGs S k E cc sc ts f.1 f.2
  | [], f, e => by
    cases e
    exact cgs_nil
  | t :: ts, f, e => by
    unfold compGs at e
    split at e
    · rename_i hs
      split at e
      · rename_i a b e1 e2
        cases e
        exact cgs_cons hs (h _ _ e1) (compGs_ok h e2)
      · cases e
    · cases e
theorem compG_ok : ∀ (n : Nat) (e : Expr) (f : List Nat × GF), compG cc sc n e = some f → CG S k E cc sc e f.1 f.2
  | 0, _, _, e => by cases e
  | n + 1, e, f, h => by
    unfold compG at h
    split at h
    · rename_i x p
      split at h
      · rename_i hl
        obtain ⟨i, hi, rfl⟩ := map_ok h
        exact cg_name (pos0_ok hi) hl
      · cases h
    · rename_i ts m p
      obtain ⟨q, hq, rfl⟩ := map_ok h
      exact cg_tup (compGs_ok (compG_ok n) hq)
    · cases h
theorem compTs_ok {r : Expr → Option TF} (h : ∀ e f, r e = some f → CT S k E cc sc e f) {ifs : List Expr} {f : TF} (e : compTs r ifs = some f) : CTs S k E cc sc ifs f := by
  unfold compTs at e
  split at e
  · cases e
    exact cts_nil
  · exact cts_one (h _ _ e)
  · cases e
/-- the parts of a comprehension are right -/
structure LcOk (S : Sys) (k : Nat) (E : XK) (cc : CC) (sc : SC) (elt tg iter : Expr) (ifs : List Expr) (scope : Scope) (p : LcP) : Prop where
  ns : notSet iter = true
  ok : blkC cc.N sc.sc scope p.own = true
  i : CI S k E cc sc tg iter p.it
  g : CG S k E0 cc (blkSC scope sc) tg p.sl p.g
  sl : ∀ i ∈ p.sl, i ∈ p.own.map (·.2)
  t : CTs S k E0 cc (blkSC scope sc) ifs p.t
  e : CE S k E0 cc (blkSC scope sc) elt p.el
theorem compLc_ok {r : Rec} (C : CcOk S k cc) (h : RecOk S k cc r) {elt tg iter : Expr} {ifs : List Expr} {scope : Scope} {p : LcP} (e : compLc cc sc r elt tg iter ifs scope = some p) : LcOk S k E cc sc elt tg iter ifs scope p := by
  unfold compLc at e
  split at e
  · rename_i hc
    obtain ⟨c1, c2⟩ := and2 hc
    split at e
    · rename_i it g t el e1 e2 e3 e4
      split at e
      · rename_i hs
        cases e
        exact ⟨c1, c2, compI_ok C (h.e E sc) e1, compG_ok 3 tg g e2, fun i hi => of_decide_eq_true (List.all_eq_true.mp hs i hi), compTs_ok (h.t E0 _) e3, h.e E0 _ _ _ e4⟩
      · cases e
    · cases e
  · cases e
theorem compAnd_ok {r : Expr → Option EF} (h : ∀ e f, r e = some f → CE S k E cc sc e f) {pos : Pos} : ∀ {es : List Expr} {f : EF}, compAnd r es = some f → CE S k E cc sc (.BoolOp .And es pos) f
  | [], f, e => by cases e
  | [a], f, e => ce_one (h _ _ e)
  | a :: b :: rest, f, e => by
    have e' : (match r a, compAnd r (b :: rest) with
      | some f, some g => some (eAn f g)
      | _, _ => none) = some f := e
    split at e'
    · rename_i f1 g1 e1 e2
      cases e'
      exact ce_and (h _ _ e1) (compAnd_ok h e2)
    · cases e'
theorem compOr_ok {r : Expr → Option EF} (h : ∀ e f, r e = some f → CE S k E cc sc e f) {pos : Pos} : ∀ {es : List Expr} {f : EF}, compOr r es = some f → CE S k E cc sc (.BoolOp .Or es pos) f
  | [], f, e => by cases e
  | [a], f, e => ce_one (h _ _ e)
  | a :: b :: rest, f, e => by
    have e' : (match r a, compOr r (b :: rest) with
      | some f, some g => some (eOr f g)
      | _, _ => none) = some f := e
    split at e'
    · rename_i f1 g1 e1 e2
      cases e'
      exact ce_or (h _ _ e1) (compOr_ok h e2)
    · cases e'
theorem compAndT_ok {r : Expr → Option TF} (h : ∀ e f, r e = some f → CT S k E cc sc e f) {pos : Pos} : ∀ {es : List Expr} {f : TF}, compAndT r es = some f → CW S k E cc sc (.BoolOp .And es pos) f
  | [], f, e => by cases e
  | [a], f, e => cw_and1 (h _ _ e)
  | a :: b :: rest, f, e => by
    have e' : (match r a, compAndT r (b :: rest) with
      | some f, some g => some (tAn f g)
      | _, _ => none) = some f := e
    split at e'
    · rename_i f1 g1 e1 e2
      cases e'
      exact cw_and (h _ _ e1) (compAndT_ok h e2)
    · cases e'
theorem compOrT_ok {r : Expr → Option TF} (h : ∀ e f, r e = some f → CT S k E cc sc e f) {pos : Pos} : ∀ {es : List Expr} {f : TF}, compOrT r es = some f → CW S k E cc sc (.BoolOp .Or es pos) f
  | [], f, e => by cases e
  | [a], f, e => cw_or1 (h _ _ e)
  | a :: b :: rest, f, e => by
    have e' : (match r a, compOrT r (b :: rest) with
      | some f, some g => some (tOr f g)
      | _, _ => none) = some f := e
    split at e'
    · rename_i f1 g1 e1 e2
      cases e'
      exact cw_or (h _ _ e1) (compOrT_ok h e2)
    · cases e'
theorem compO_ok {r : Expr → Option EF} (h : ∀ e f, r e = some f → CE S k E cc sc e f) {o : Option Expr} {f : OF} (e : compO r o = some f) : CO S k E cc sc o f := by
  cases o with
  | none => cases e; exact co_none
  | some a =>
    obtain ⟨g, hg, rfl⟩ := map_ok (show (r a).map oSome = some f from e)
    exact co_some (h _ _ hg)
theorem compSub_ok {r : Expr → Option EF} (h : ∀ e f, r e = some f → CE S k E cc sc e f) {a i : Expr} {f : EF} {pos : Pos} (e : compSub r a i = some f) : CE S k E cc sc (.Subscript a i pos) f := by
  unfold compSub at e
  split at e
  · rename_i lo hi st p
    split at e
    · split at e
      · rename_i f1 g1 h1 e1 e2 e3
        cases e
        exact ce_sl (h _ _ e1) (compO_ok h e2) (compO_ok h e3)
      · cases e
    · rename_i m
      split at e
      · split at e
        · rename_i hm
          obtain ⟨g, hg, rfl⟩ := map_ok e
          unfold isM1 at hm
          split at hm
          · exact ce_un (r := fun x H Q => ∃ a xs, x = .ref a ∧ SqL S.K H a xs ∧ ∀ p, H p = none → Q (.ref p) (upd H p (.lst xs.reverse))) (fun X c ta pa => by rw [← c.K]; exact pe_revL pa) us_rev (h _ _ hg)
          · cases hm
        · cases e
      · cases e
  · rename_i hns
    split at e
    · rename_i f1 g1 e1 e2
      cases e
      have hpl : PlainIx i := fun o j => by
        unfold subscripted
        split
        · exact (hns _ _ _ _ rfl).elim
        · rename_i hh
          cases hh
        · rfl
      exact ce_op (fun X c ta tb pa pb => by rw [← c.K]; exact pe_ix ix_seq pa pb hpl) os_ix (h _ _ e1) (h _ _ e2)
    · cases e
theorem compCall_ok {r : Expr → Option EF} (C : CcOk S k cc) (h : ∀ e f, r e = some f → CE S k E cc sc e f) {x : Str} {es : List Expr} {f : EF} {p pos : Pos} (e : compCall cc sc r x es = some f) : CE S k E cc sc (.Call (.Name x p) es [] pos) f := by
  unfold compCall at e
  split at e
  · rename_i fe hf
    have h1 := List.find?_some hf
    have h2 := List.mem_of_find?_eq_some hf
    have hx : fe.x = x := of_decide_eq_true h1
    split at e
    · cases e
    · rename_i a rest
      split at e
      · rename_i hc
        obtain ⟨c1, c2⟩ := and2 hc
        obtain ⟨c2, c3⟩ := and2 c2
        obtain ⟨g, hg, rfl⟩ := map_ok e
        obtain ⟨g1, g2, g3⟩ := compA_ok (frzR_ok h) hg
        exact ce_call C h2 hx (of_decide_eq_true c2) c3 c1 g1 g3
      · cases e
  · exact compBi_ok C h e
theorem constD_ok {c : Const} {d : D} {n : Nat} {pos : Pos} (h : constD c = some d) : CE S k E cc sc (.Constant c n pos) (eC d) := by
  cases c <;> first | (cases h; done) | skip
  all_goals cases h
  · exact ce_c (v := .non) (fun X c => pe_non) fun G => .non
  · exact ce_c (v := .bl _) (fun X c => pe_bl) fun G => .bl _
  · exact ce_c (v := .int _) (fun X c => pe_int) fun G => .int _
  · exact ce_c (v := .str _) (fun X c => pe_str) fun G => .str _
theorem lookup_mem {α : Type} {x : Str} {d : α} : ∀ {l : List (Str × α)}, l.lookup x = some d → (x, d) ∈ l
  | [], h => by cases h
  | (y, e) :: l, h => by
    rw [List.lookup_cons] at h
    cases hb : x == y with
    | true =>
      rw [hb] at h
      have : x = y := eq_of_beq hb
      subst this
      cases h
      exact List.mem_cons_self
    | false =>
      rw [hb] at h
      exact List.mem_cons_of_mem _ (lookup_mem h)
theorem stepE_ok {r : Rec} (C : CcOk S k cc) (h : RecOk S k cc r) {e : Expr} {f : EF} (hf : stepE cc r sc e = some f) : CE S k E cc sc e f := by
  have he := h.e E sc
  have ht := h.t E sc
  cases e with
  | Constant c n p =>
    obtain ⟨d, hd, rfl⟩ := map_ok (show (constD c).map eC = some f from hf)
    exact constD_ok hd
  | Name x p =>
    have hf' : (if visB sc x then (pos0 cc.N x).map eVar else if glB sc x then (cc.con.lookup x).map eC else none) = some f := hf
    split at hf'
    · rename_i hv
      obtain ⟨i, hi, rfl⟩ := map_ok hf'
      obtain ⟨v1, v2, v3⟩ := visB_ok hv
      exact ce_var (pos0_ok hi) v1 v2 v3
    · split at hf'
      · rename_i hg
        obtain ⟨d, hd, rfl⟩ := map_ok hf'
        obtain ⟨v, u, h1, h2, h3⟩ := C.con _ (lookup_mem hd)
        exact ce_c (fun X c => pe_glob (glB_ok c hg).1 (by rw [c.mg]; exact h1) h2 (glB_ok c hg).2.1) h3
      · cases hf'
  | BinOp a op b p =>
    have hf' : (match binS op, r.E sc a, r.E sc b with
      | some o, some f, some g => some (eBin o f g)
      | _, _, _ => none) = some f := hf
    split at hf'
    · rename_i o f1 g1 e1 e2 e3
      cases hf'
      exact binS_ok e1 (he _ _ e2) (he _ _ e3)
    · cases hf'
  | UnaryOp op a p =>
    cases op with
    | USub =>
      have hf' : (match (generalizing := false) a with
        | .Constant (.int 1) _ _ => some (eC (.int (-1)))
        | _ => none) = some f := hf
      split at hf'
      · cases hf'
        exact ce_m1
      · cases hf'
    | Not =>
      obtain ⟨g, hg, rfl⟩ := map_ok (show (r.E sc a).map eNt = some f from hf)
      exact ce_not (he _ _ hg)
    | _ => cases hf
  | BoolOp op es p =>
    cases op with
    | And => exact compAnd_ok he hf
    | Or => exact compOr_ok he hf
  | Compare a ops bs p => exact (compCmp_ok he hf).1
  | IfExp c a b p =>
    have hf' : (match r.T sc c, r.E sc a, r.E sc b with
      | some t, some f, some g => some (eIf t f g)
      | _, _, _ => none) = some f := hf
    split at hf'
    · rename_i t f1 g1 e1 e2 e3
      cases hf'
      exact ce_if (ht _ _ e1) (he _ _ e2) (he _ _ e3)
    · cases hf'
  | Tuple es n p =>
    obtain ⟨g, hg, rfl⟩ := map_ok (show (compA (frzR (r.E sc)) es).map eTup = some f from hf)
    exact ce_tup (compA_ok (frzR_ok he) hg).1
  | List es p =>
    obtain ⟨g, hg, rfl⟩ := map_ok (show (compA (frzR (r.E sc)) es).map eLst = some f from hf)
    exact ce_lst (compA_ok (frzR_ok he) hg).1
  | Subscript a i p => exact compSub_ok he hf
  | ListComp elt gs scope p =>
    have hf' : (match (generalizing := false) gs with
      | [⟨tg, iter, ifs, 0⟩] => (compLc cc sc r elt tg iter ifs scope).map fun p => eLc (p.own.map (·.2)) p.it p.g p.t p.el
      | _ => none) = some f := hf
    split at hf'
    · obtain ⟨q, hq, rfl⟩ := map_ok hf'
      have L := compLc_ok (E := E) C h hq
      exact ce_lc L.ns L.ok L.i L.g L.sl L.t L.e
    · cases hf'
  | Call fe es kw p =>
    have hf' : (match (generalizing := false) fe, kw with
      | .Name x _, [] => compCall cc sc (r.E sc) x es
      | _, _ => none) = some f := hf
    split at hf'
    · exact compCall_ok C he hf'
    · cases hf'
  | _ => cases hf
theorem stepT_ok {r : Rec} (C : CcOk S k cc) (h : RecOk S k cc r) {e : Expr} {f : TF} (hf : stepT cc r sc e = some f) : CT S k E cc sc e f := by
  have he := h.e E sc
  have ht := h.t E sc
  have key : ∀ {f : TF}, plainT e = true → (r.E sc e).map tVal = some f → CT S k E cc sc e f := fun hp hm => by
    obtain ⟨g, hg, rfl⟩ := map_ok hm
    exact ct_val hp (he _ _ hg)
  cases e with
  | UnaryOp op a p =>
    cases op with
    | Not =>
      obtain ⟨g, hg, rfl⟩ := map_ok (show (r.T sc a).map tNt = some f from hf)
      exact ct_not (ht _ _ hg)
    | _ => cases hf
  | BoolOp op es p =>
    cases op with
    | And => exact (compAndT_ok ht hf).ct
    | Or => exact (compOrT_ok ht hf).ct
  | Compare a ops bs p =>
    obtain ⟨g, hg, rfl⟩ := map_ok (show (compCmp (r.E sc) a ops bs).map tVal = some f from hf)
    exact (compCmp_ok he hg).2
  | IfExp _ _ _ _ => cases hf
  | _ => exact key rfl hf
theorem recN_ok (C : CcOk S k cc) : ∀ n, RecOk S k cc (recN cc n)
  | 0 => ⟨fun _ _ _ _ h => (by cases h), fun _ _ _ _ h => (by cases h)⟩
  | n + 1 => ⟨fun E sc e f h => stepE_ok C (recN_ok C n) h, fun E sc e f h => stepT_ok C (recN_ok C n) h⟩
end
end PD
/-! a text's reading: statements, defs -/
namespace PD
open PySem PySem.Spec PyProof.Rows L2
/-! ### the names that are handed on -/
def quietB : List Str := ["len", "isinstance", "int", "str", "bool", "list", "tuple", "sum", "all", "any", "max", "min", "sorted", "set", "abs", "range"]
def escE : Nat → Bool → Expr → List Str
  | 0, _, _ => []
  | n + 1, up, e => match e with
    | .Name x _ => if up then [x] else []
    | .Tuple es _ _ => es.flatMap (escE n true)
    | .List es _ => es.flatMap (escE n true)
    | .Call f args _ _ => (match f with
      | .Name x _ => if x ∈ quietB then args.flatMap (escE n false) else args.flatMap (escE n true)
      | _ => args.flatMap (escE n true))
    | .BinOp a _ b _ => escE n false a ++ escE n false b
    | .UnaryOp _ a _ => escE n false a
    | .BoolOp _ es _ => es.flatMap (escE n up)
    | .IfExp c a b _ => escE n false c ++ (escE n up a ++ escE n up b)
    | .Compare a _ bs _ => escE n false a ++ bs.flatMap (escE n false)
    | .Subscript a i _ => escE n false a ++ escE n false i
    | .Slice a b _ _ => (match a with
      | some a => escE n false a
      | none => []) ++ (match b with
      | some b => escE n false b
      | none => [])
    | .ListComp elt gs _ _ => escE n true elt ++ gs.flatMap fun g => escE n true g.iter ++ g.ifs.flatMap (escE n false)
    | _ => []
def escN (cc : CC) (up : Bool) (e : Expr) : List Nat := (escE 30 up e).filterMap (pos0 cc.N)
/-! ### a, b = .. with local names -/
def kindB (k : ScopeKind) : Bool := match k with
  | .function => true
  | _ => false
def parNames (sc : SC) (line : Nat) (ts : List Expr) : List Str := ts.filterMap fun
  | .Name id pos => if sc.sc.names.lookup id == some .local && pos.line == line then some id else none
  | _ => none
def swN (sc : SC) (ts vs : List Expr) : Option (Option (List Str)) :=
  if kindB sc.sc.kind then
    if !(ts.length == 2 || ts.length == 3) || vs.length != ts.length then some none
    else if vs.any fun | .Starred .. => true | _ => false then some none
    else
      let names := parNames sc ((ts.head?.map (·.pos.line)).getD 0) ts
      if names.length != ts.length || names.eraseDups.length != names.length then some none
      else if vs.all (foldedForSure 8) then some none
      else if vs.all (constantsAlone 8) then none
      else some (some names)
  else none
theorem kindB_ok {k : ScopeKind} (h : kindB k = true) : k = .function := by
  cases k <;> first | rfl | cases h
theorem swN_ok {sc : SC} {ts vs : List Expr} {n m : Nat} {p q : Pos} {env : Env} {o : Option (List Str)} (h : swN sc ts vs = some o) (hs : env.scope = sc.sc) : swappedStores [.Tuple ts n p] (.Tuple vs m q) env = pure o := by
  unfold swN at h
  split at h
  · rename_i hk
    have hk' := kindB_ok hk
    have hb : env.blockKind = .function := by
      unfold Env.blockKind
      rw [hs, hk']
      rfl
    have hn : (ts.filterMap fun
      | .Name id pos => if env.kindOf id == some .local && pos.line == (ts.head?.map (·.pos.line)).getD 0 then some id else none
      | _ => none) = parNames sc ((ts.head?.map (·.pos.line)).getD 0) ts := by
      unfold parNames Env.kindOf
      rw [hs]
    have hs2 : swappedStores [.Tuple ts n p] (.Tuple vs m q) env = (if !(ts.length == 2 || ts.length == 3) || vs.length != ts.length || ScopeKind.function != ScopeKind.function then pure none
      else if vs.any fun | .Starred .. => true | _ => false then pure none
      else if (ts.filterMap fun
        | .Name id pos => if env.kindOf id == some .local && pos.line == (ts.head?.map (·.pos.line)).getD 0 then some id else none
        | _ => none).length != ts.length || (ts.filterMap fun
        | .Name id pos => if env.kindOf id == some .local && pos.line == (ts.head?.map (·.pos.line)).getD 0 then some id else none
        | _ => none).eraseDups.length != (ts.filterMap fun
        | .Name id pos => if env.kindOf id == some .local && pos.line == (ts.head?.map (·.pos.line)).getD 0 then some id else none
        | _ => none).length then pure none
      else if vs.all (foldedForSure 8) then pure none
      else if vs.all (constantsAlone 8) then (do
          let _ ← (unsupported "assign.tuple-of-constant-expressions:order-of-the-stores" : Sem Unit)
          pure (some (ts.filterMap fun
        | .Name id pos => if env.kindOf id == some .local && pos.line == (ts.head?.map (·.pos.line)).getD 0 then some id else none
        | _ => none)))
      else pure (some (ts.filterMap fun
        | .Name id pos => if env.kindOf id == some .local && pos.line == (ts.head?.map (·.pos.line)).getD 0 then some id else none
        | _ => none))) := by
      unfold swappedStores
      rw [hb]
      rfl
    rw [hs2, hn]
    split at h
    · rename_i h1
      cases h
      exact if_pos (by rw [h1]; rfl)
    · rename_i h1
      refine (if_neg (by rw [Bool.eq_false_iff.mpr h1]; decide)).trans ?_
      split at h
      · rename_i h2
        cases h
        exact if_pos h2
      · rename_i h2
        refine (if_neg h2).trans ?_
        simp only [] at h
        split at h
        · rename_i h3
          cases h
          exact if_pos h3
        · rename_i h3
          refine (if_neg h3).trans ?_
          split at h
          · rename_i h4
            cases h
            exact if_pos h4
          · rename_i h4
            refine (if_neg h4).trans ?_
            split at h
            · cases h
            · rename_i h5
              cases h
              exact if_neg h5
  · cases h
end PD
/-! a text's reading: statements -/
namespace PD
open PySem PySem.Spec PyProof.Rows L2
def compP (cc : CC) (sc : SC) (r : Expr → Option EF) : Expr → Option (List L → M (D × List L))
  | .Call (.Attribute (.Name x _) m p2) es [] p3 =>
    if decide (m = "pop") && (visB sc x && (p2.endLine == p3.line)) then (match es with
      | [] => (pos0 cc.N x).map pPop
      | [a] => if notStar a then (match pos0 cc.N x, r a with
        | some i, some f => some (pPopAt i f)
        | _, _ => none) else none
      | _ => none) else none
  | _ => none
def compX (cc : CC) (sc : SC) (r : Expr → Option EF) (e : Expr) : Option SF := match e with
  | .Call (.Attribute (.Name x p1) m p2) es [] p3 =>
    if m = "append" then (if visB sc x && (p2.endLine == p3.line) then (match es with
      | [a] => if notStar a then (match pos0 cc.N x, compP cc sc r a with
        | some i, some f => some (sAppP i f)
        | some i, none => (r a).map (sApp (escN cc true a) i)
        | _, _ => none) else none
      | _ => none) else none)
    else if m = "extend" then (if visB sc x && (p2.endLine == p3.line) then (match es with
      | [a] => if notStar a then (match pos0 cc.N x, r a with
        | some i, some f => some (sExt (escN cc true a) i f)
        | _, _ => none) else none
      | _ => none) else none)
    else (compP cc sc r (.Call (.Attribute (.Name x p1) m p2) es [] p3)).map sPopX
  | e => if notComp e then (r e).map (sExp (escN cc true e)) else none
def compAsg (cc : CC) (sc : SC) (r : Rec) (x : Str) (e : Expr) : Option SF :=
  if locB sc x then (match pos0 cc.N x with
    | none => none
    | some i => match e with
      | .ListComp elt gs scope p => (match gs with
        | [⟨tg, iter, ifs, 0⟩] => (compLc cc sc r elt tg iter ifs scope).map fun q => sAsg (escN cc true (.ListComp elt gs scope p)) i (eLc (q.own.map (·.2)) q.it q.g q.t q.el)
        | _ => none)
      | e => if notComp e then (match compP cc sc (r.E sc) e with
        | some f => some (sPopA i f)
        | none => (r.E sc e).map (sAsg (escN cc true e) i)) else none)
  else none
def isLoc (sc : SC) (x : Str) : Bool := match sc.sc.names.lookup x with
  | some .local => true
  | _ => false
theorem isLoc_ok {sc : SC} {x : Str} (h : isLoc sc x = true) : sc.sc.names.lookup x = some .local := by
  unfold isLoc at h
  split at h
  · rename_i e; exact e
  · cases h
def compTup (cc : CC) (sc : SC) (r : Expr → Option EF) (ts : List Expr) (n : Nat) (tp : Pos) (e : Expr) : Option SF :=
  match compG cc sc 3 (.Tuple ts n tp), r e with
  | some g, some f => if notTup e then some (sUnp (escN cc true e) g.2 f) else none
  | _, _ => none
def compPar (cc : CC) (sc : SC) (r : Expr → Option EF) (x y : Str) (a b : Expr) : Option SF :=
  if (isLoc sc x && isLoc sc y) && (notStar a && notStar b) then (match pos0 cc.N x, pos0 cc.N y, r a, r b with
    | some i, some j, some f, some g => if i ≠ j then some (sPar (escN cc true a ++ escN cc true b) i j f g) else none
    | _, _, _, _ => none) else none
def compTup2 (cc : CC) (sc : SC) (r : Expr → Option EF) (ts : List Expr) (n : Nat) (tp : Pos) (e : Expr) : Option SF := match e with
  | .Tuple vs _ _ => (match swN sc ts vs with
    | some none => (match compG cc sc 3 (.Tuple ts n tp), r e with
      | some g, some f => some (sUnp (escN cc true e) g.2 f)
      | _, _ => none)
    | some (some [x, y]) => (match ts, vs with
      | [.Name x' _, .Name y' _], [a, b] => if x' = x ∧ y' = y then compPar cc sc r x y a b else none
      | _, _ => none)
    | _ => none)
  | e => compTup cc sc r ts n tp e
def compSt (cc : CC) (sc : SC) (r : Expr → Option EF) (x : Str) (ie e : Expr) : Option SF :=
  if visB sc x && notSlice ie then (match pos0 cc.N x, r ie, r e with
    | some i, some g, some f => some (sSto (escN cc true e) i g f)
    | _, _, _ => none) else none
def compSs (r : Stmt → Option SF) : List Stmt → Option SF
  | [] => some sNil
  | s :: ss => match r s, compSs r ss with
    | some f, some g => some (sSeq f g)
    | _, _ => none
/-- a statement -/
def compS (cc : CC) (sc : SC) (exc : List Str) (fu : Nat) (r : Rec) : Nat → Stmt → Option SF
  | 0, _ => none
  | n + 1, s => match s with
    | .Expr e _ => compX cc sc (r.E sc) e
    | .Assign ts e _ => (match ts with
      | [.Name x _] => compAsg cc sc r x e
      | [.Tuple ts k tp] => compTup2 cc sc (r.E sc) ts k tp e
      | [.Subscript (.Name x _) ie _] => compSt cc sc (r.E sc) x ie e
      | _ => none)
    | .Return o _ => (match o with
      | none => some sRetN
      | some e => (r.E sc e).map (sRet (escN cc true e)))
    | .If c a b _ => (match r.T sc c, compSs (compS cc sc exc fu r n) a, compSs (compS cc sc exc fu r n) b with
      | some t, some f, some g => some (sIf (escN cc false c) t f g)
      | _, _, _ => none)
    | .For tg it body els _ => (match els with
      | [] => if notSet it then (match compI cc sc (r.E sc) tg it, compG cc sc 3 tg, compSs (compS cc sc exc fu r n) body with
        | some w, some g, some f => some (sFor (escN cc true it) w g.2 f)
        | _, _, _ => none) else none
      | _ => none)
    | .While c body els _ => (match els with
      | [] => (match r.T sc c, compSs (compS cc sc exc fu r n) body with
        | some t, some f => some (sWh fu [] t f)
        | _, _ => none)
      | _ => none)
    | .Raise o ca _ => (match o, ca with
      | some (.Call (.Name x _) [.Constant (.str _) _ _] [] _), none => if decide (x ∈ exc) && glB sc x then some (sRaise x) else none
      | _, _ => none)
    | .Pass _ => some sNil
    | .Continue _ => some sCt
    | .Break _ => some sBk
    | _ => none
section
variable {S : Sys} {k : Nat} {E : XK} {cc : CC} {sc : SC} {r : Rec}
theorem compP_ok {r : Expr → Option EF} (h : ∀ e f, r e = some f → CE S k E cc sc e f) {e : Expr} {f : List L → M (D × List L)} (hf : compP cc sc r e = some f) : CP S k E cc sc e f ∧ notComp e = true := by
  unfold compP at hf
  split at hf
  · rename_i x p1 m p2 es p3
    split at hf
    · rename_i hc
      obtain ⟨h1, h2⟩ := and2 hc
      obtain ⟨h2, h3⟩ := and2 h2
      have h1 := of_decide_eq_true h1
      subst h1
      obtain ⟨v1, v2, v3⟩ := visB_ok h2
      refine ⟨?_, rfl⟩
      split at hf
      · obtain ⟨i, e1, rfl⟩ := map_ok hf
        exact cp_pop (pos0_ok e1) v1 v2 v3 h3
      · split at hf
        · rename_i hs
          split at hf
          · rename_i i g e1 e2
            cases hf
            exact cp_popAt (pos0_ok e1) v1 v2 v3 h3 hs (h _ _ e2)
          · cases hf
        · cases hf
      · cases hf
    · cases hf
  · cases hf
theorem compX_ok {r : Expr → Option EF} (h : ∀ e f, r e = some f → CE S k E cc sc e f) {e : Expr} {f : SF} {pos : Pos} (hf : compX cc sc r e = some f) : CS S k E cc sc (.Expr e pos) f := by
  unfold compX at hf
  split at hf
  · rename_i x p1 m p2 es p3
    split at hf
    · rename_i hm
      subst hm
      split at hf
      · rename_i hc
        obtain ⟨h2, h3⟩ := and2 hc
        obtain ⟨v1, v2, v3⟩ := visB_ok h2
        split at hf
        · rename_i a
          split at hf
          · rename_i hs
            split at hf
            · rename_i i g e1 e2
              cases hf
              exact cs_appP (pos0_ok e1) v1 v2 v3 h3 hs (compP_ok h e2).1
            · rename_i i e1 e2
              obtain ⟨g, e3, rfl⟩ := map_ok hf
              exact cs_append _ (pos0_ok e1) v1 v2 v3 h3 hs (h _ _ e3)
            · cases hf
          · cases hf
        · cases hf
      · cases hf
    · split at hf
      · rename_i hm
        subst hm
        split at hf
        · rename_i hc
          obtain ⟨h2, h3⟩ := and2 hc
          obtain ⟨v1, v2, v3⟩ := visB_ok h2
          split at hf
          · rename_i a
            split at hf
            · rename_i hs
              split at hf
              · rename_i i g e1 e2
                cases hf
                exact cs_extend _ (pos0_ok e1) v1 v2 v3 h3 hs (h _ _ e2)
              · cases hf
            · cases hf
          · cases hf
        · cases hf
      · obtain ⟨g, e1, rfl⟩ := map_ok hf
        obtain ⟨c1, c2⟩ := compP_ok h e1
        exact cs_popX c2 c1
  · split at hf
    · rename_i hn
      obtain ⟨g, e1, rfl⟩ := map_ok hf
      exact cs_exp _ hn (h _ _ e1)
    · cases hf
theorem compAsg_ok (C : CcOk S k cc) (h : RecOk S k cc r) {x : Str} {e : Expr} {f : SF} {pos pos' : Pos} (hf : compAsg cc sc r x e = some f) : CS S k E cc sc (.Assign [.Name x pos'] e pos) f := by
  unfold compAsg at hf
  split at hf
  · rename_i hl
    split at hf
    · cases hf
    · rename_i i hi
      split at hf
      · split at hf
        · obtain ⟨q, e1, rfl⟩ := map_ok hf
          have lc := compLc_ok (E := E) C h e1
          exact cs_asgLc _ (pos0_ok hi) hl lc.ns lc.ok lc.i lc.g lc.sl lc.t lc.e
        · cases hf
      · split at hf
        · rename_i hn
          split at hf
          · rename_i g e1
            cases hf
            exact cs_popA (pos0_ok hi) hl hn (compP_ok (h.e E sc) e1).1
          · obtain ⟨g, e1, rfl⟩ := map_ok hf
            exact cs_asg _ (pos0_ok hi) hl hn (h.e E sc _ _ e1)
        · cases hf
  · cases hf
theorem compPar_ok {r : Expr → Option EF} (h : ∀ e f, r e = some f → CE S k E cc sc e f) {x y : Str} {a b : Expr} {f : SF} {px py pt pos pt2 : Pos} {kt k2 : Nat} (hw : swN sc [.Name x px, .Name y py] [a, b] = some (some [x, y])) (hf : compPar cc sc r x y a b = some f) :
    CS S k E cc sc (.Assign [.Tuple [.Name x px, .Name y py] kt pt] (.Tuple [a, b] k2 pt2) pos) f := by
  unfold compPar at hf
  split at hf
  · rename_i hc
    obtain ⟨h1, h2⟩ := and2 hc
    obtain ⟨h1, h3⟩ := and2 h1
    obtain ⟨h2, h4⟩ := and2 h2
    split at hf
    · rename_i i j g1 g2 e1 e2 e3 e4
      split at hf
      · rename_i hij
        cases hf
        exact cs_par _ (pos0_ok e1) (pos0_ok e2) hij (isLoc_ok h1) (isLoc_ok h3) h2 h4 (fun X c => swN_ok hw c.toCtxOk.scp) (h _ _ e3) (h _ _ e4)
      · cases hf
    · cases hf
  · cases hf
theorem compTup2_ok {r : Expr → Option EF} (h : ∀ e f, r e = some f → CE S k E cc sc e f) {ts : List Expr} {n : Nat} {tp pos : Pos} {e : Expr} {f : SF} (hf : compTup2 cc sc r ts n tp e = some f) : CS S k E cc sc (.Assign [.Tuple ts n tp] e pos) f := by
  unfold compTup2 at hf
  split at hf
  · rename_i vs m q
    split at hf
    · rename_i hw
      split at hf
      · rename_i g f1 e1 e2
        cases hf
        exact cs_unp _ (fun X c => swN_ok hw c.toCtxOk.scp) (compG_ok 3 _ _ e1) (h _ _ e2)
      · cases hf
    · rename_i x y hw
      split at hf
      · rename_i x' p1 y' p2 a b
        split at hf
        · rename_i hc
          obtain ⟨rfl, rfl⟩ := hc
          exact compPar_ok h hw hf
        · cases hf
      · cases hf
    · cases hf
  · unfold compTup at hf
    split at hf
    · rename_i g f1 e1 e2
      split at hf
      · rename_i hn
        cases hf
        exact cs_unp _ (fun X c => swappedTup hn) (compG_ok 3 _ _ e1) (h _ _ e2)
      · cases hf
    · cases hf
theorem compSt_ok {r : Expr → Option EF} (h : ∀ e f, r e = some f → CE S k E cc sc e f) {x : Str} {ie e : Expr} {f : SF} {p1 p2 pos : Pos} (hf : compSt cc sc r x ie e = some f) : CS S k E cc sc (.Assign [.Subscript (.Name x p1) ie p2] e pos) f := by
  unfold compSt at hf
  split at hf
  · rename_i hc
    obtain ⟨h1, h2⟩ := and2 hc
    obtain ⟨v1, v2, v3⟩ := visB_ok h1
    split at hf
    · rename_i i g f1 e1 e2 e3
      cases hf
      exact cs_store _ (pos0_ok e1) v1 v2 v3 h2 (h _ _ e3) (h _ _ e2)
    · cases hf
  · cases hf
theorem compSs_ok {r : Stmt → Option SF} : ∀ {ss : List Stmt} {f : SF}, (∀ s f, r s = some f → CS S k E cc sc s f) → compSs r ss = some f → CSs S k E cc sc ss f
  | [], f, h, e => by cases e; exact css_nil
  | s :: ss, f, h, e => by
    unfold compSs at e
    split at e
    · rename_i f1 g e1 e2
      cases e
      exact css_cons (h _ _ e1) (compSs_ok h e2)
    · cases e
theorem compS_ok {exc : List Str} {fu : Nat} (C : CcOk S k cc) (h : RecOk S k cc r) (hx : ∀ x ∈ exc, ExcAt S x) : ∀ n s f, compS cc sc exc fu r n s = some f → CS S k E cc sc s f
  | 0, _, _, e => by cases e
  | n + 1, s, f, e => by
    have ih := compS_ok (exc := exc) (fu := fu) C h hx n
    unfold compS at e
    split at e
    · exact compX_ok (h.e E sc) e
    · split at e
      · exact compAsg_ok C h e
      · exact compTup2_ok (h.e E sc) e
      · exact compSt_ok (h.e E sc) e
      · cases e
    · split at e
      · cases e; exact cs_retN
      · obtain ⟨g, e1, rfl⟩ := map_ok e
        exact cs_ret _ (h.e E sc _ _ e1)
    · split at e
      · rename_i t f1 g1 e1 e2 e3
        cases e
        exact cs_if _ (h.t E sc _ _ e1) (compSs_ok ih e2) (compSs_ok ih e3)
      · cases e
    · split at e
      · split at e
        · rename_i hns
          split at e
          · rename_i w g f1 e1 e2 e3
            cases e
            exact cs_for _ hns (compI_ok C (h.e E sc) e1) (compG_ok 3 _ _ e2) (compSs_ok ih e3)
          · cases e
        · cases e
      · cases e
    · split at e
      · split at e
        · rename_i t f1 e1 e2
          cases e
          exact cs_while _ (h.t E sc _ _ e1) (compSs_ok ih e2)
        · cases e
      · cases e
    · split at e
      · split at e
        · rename_i hc
          cases e
          obtain ⟨h1, h2⟩ := and2 hc
          exact cs_raise (hx _ (of_decide_eq_true h1)) h2
        · cases e
      · cases e
    · cases e; exact cs_pass
    · cases e; exact cs_continue
    · cases e; exact cs_break
    · cases e
end
end PD
/-! defs -/
namespace PD
open PySem PySem.Spec PyProof.Rows L2
def startL (n : Nat) (ds : List D) : List L := ds.map .d ++ List.replicate (n - ds.length) .un
def semR : R → M D
  | .nx _ => .ok .none
  | .rt d => .ok d
  | _ => .stuck
def semF (n : Nat) (f : SF) (ds : List D) : M D := (f (startL n ds)).bind semR
section
variable {S : Sys} {G H : Hp}
theorem srs_un {H0 : Hp} : ∀ n, SRs S H0 G H (List.replicate n none) (List.replicate n .un) (List.replicate n [])
  | 0 => .nil
  | n + 1 => .cons rfl (srs_un n)
theorem srs_start {H0 : Hp} : ∀ {vs : List V} {ds : List D} (n : Nat), DRs S.K G vs ds → SRs S H0 G H (vs.map some ++ List.replicate n none) (ds.map .d ++ List.replicate n .un) (List.replicate (ds.length + n) [])
  | [], [], n, .nil => by
    rw [List.length_nil, Nat.zero_add]
    exact srs_un n
  | v :: vs, d :: ds, n, .cons a r => by
    have h := srs_start (H0 := H0) n r
    have e : ([] : List Addr) :: List.replicate (ds.length + n) [] = List.replicate ((d :: ds).length + n) [] := by
      rw [List.length_cons, Nat.add_right_comm]
      rfl
    rw [← e]
    exact SRs.cons ⟨rfl, v, rfl, a⟩ h
theorem flat_nil : ∀ n : Nat, (List.replicate n ([] : List Addr)).flatten = []
  | 0 => rfl
  | n + 1 => by rw [List.replicate_succ, List.flatten_cons, flat_nil n]; rfl
theorem env_start {H0 : Hp} {vs : List V} {ds : List D} {N : List Str} (r : DRs S.K G vs ds) : EnvR S H0 G H (L2.start N vs) (startL N.length ds) := by
  unfold L2.start startL
  rw [← r.length]
  refine ⟨_, srs_start (N.length - vs.length) r, ?_⟩
  rw [flat_nil]
  exact List.nodup_nil
end
section
variable {S : Sys} {k : Nat} {x qual : Str} {params : Arguments} {body : List Stmt} {scope : Scope} {fa : Addr} {fd : FuncData} {ps : List Str} {cc : CC}
theorem fnOk_of {exc : List Str} {fu d n : Nat} {f : SF} (F : FunD S.K x qual params body scope [] [] fa fd)
    (hsc : FnScope cc.N ps scope) (hn : ps.length = n) (C : CcOk S k cc) (hx : ∀ x ∈ exc, ExcAt S x) (hc : compSs (compS cc ⟨scope, fun _ => true⟩ exc fu (recN cc d) d) body = some f) :
    FnOk S.P S.w S.K S.mg S.base (L2.CX S.P S.w) (k + 1) fa fd ps (spD S n (semF cc.N.length f)) := by
  refine F.ok hsc ?_ ?_
  · rintro vs H Q E ⟨G, ds, hl, _⟩
    rw [hl, hn]
  · rintro cdv A outer s H vs Q E hr ⟨G, ds, hl, sb, tb, rds, hf⟩
    obtain ⟨t, p, v⟩ := compSs_ok (E := E) (sc := ⟨scope, fun _ => true⟩) (compS_ok C (recN_ok C d) hx d) hc
    have tk : Takes (cxOf (L2.CX S.P S.w) S.P S.w S.K S.mg S.base cc.N qual scope fa cdv A outer s H E) (fun cls d _ H => E cls d H) := takes_of rfl rfl rfl rfl
    refine ⟨t, p _ ⟨⟨rfl, rfl, rfl, rfl, rfl, rfl, hsc.nd, rfl, rfl, rfl, hr, passes_call tk fun _ _ _ _ h => h⟩, tk, passes_of rfl⟩, ?_⟩
    have hf2 : match (f (startL cc.N.length ds)).bind semR with
      | .stuck => False
      | .ex c => ∀ G' H', Gr S G H G' H' → E (.ref (S.ca c)) none H'
      | .ok d => ∀ v G' H', Gr S G H G' H' → DR S.K G' v d → Q v H' := hf
    refine evS_to (v G H G H _ _ ⟨Gr.refl sb, tb, env_start rds⟩) _ ?_
    cases e : f (startL cc.N.length ds) with
    | stuck => rw [e] at hf2; exact hf2.elim
    | ex c => rw [e] at hf2; exact hf2
    | ok r =>
      rw [e] at hf2
      cases r with
      | nx env => exact fun σ' G' H' a => hf2 .non G' H' a.gr .non
      | rt d => exact hf2
      | bk env => exact hf2.elim
      | ct env => exact hf2.elim
theorem fnAt_of {exc : List Str} {fu d n : Nat} {f : SF} (hF : ∃ fa fd, FunD S.K x qual params body scope [] [] fa fd ∧ S.mg x = some (.ref fa))
    (hb : ∀ (kV doc pm : Value) (an : Option Addr) (cdv ct : Value) (us : List Value), us.length = ps.length → bindArgs (PySem.W.fnOf x qual params body scope .none kV doc pm an cdv ct) ⟨us, []⟩ = pure (ps.zip us))
    (hsc : FnScope cc.N ps scope) (hn : ps.length = n) (C : CcOk S k cc) (hx : ∀ x ∈ exc, ExcAt S x) (hc : compSs (compS cc ⟨scope, fun _ => true⟩ exc fu (recN cc d) d) body = some f) :
    FnAt S (k + 1) x n (semF cc.N.length f) := by
  obtain ⟨fa, fd, F, mg⟩ := hF
  exact ⟨fa, fd, ps, mg, hn, F.bindsN hb, F.kp, fnOk_of F hsc hn C hx hc⟩
end
theorem FnAt.mono {S : Sys} {j k n : Nat} {x : Str} {f : List D → M D} (h : FnAt S j x n f) (hk : j ≤ k) : FnAt S k x n f := by
  obtain ⟨fa, fd, ps, h1, h2, h3, h4, h5⟩ := h
  exact ⟨fa, fd, ps, h1, h2, h3, h4, h5.mono hk⟩
/-- a weaker promise -/
theorem FnAt.imp {S : Sys} {k n : Nat} {x : Str} {f g : List D → M D} (h : FnAt S k x n f) (hg : ∀ ds, g ds = .stuck ∨ f ds = g ds) : FnAt S k x n g := by
  obtain ⟨fa, fd, ps, h1, h2, h3, h4, h5⟩ := h
  refine ⟨fa, fd, ps, h1, h2, h3, h4, h5.imp ?_⟩
  rintro vs H Q E ⟨G, ds, hl, sb, tb, rds, hf⟩
  rcases hg ds with e | e
  · rw [e] at hf
    exact hf.elim
  · exact ⟨G, ds, hl, sb, tb, rds, by rw [e]; exact hf⟩
end PD
/-! reckoning with the readings: what they give at known slots -/
namespace PD
open PySem PySem.Spec PyProof.Rows L2
/-- no more than so many -/
def lm {α : Type} (n : Nat) (m : M α) : M α := if n ≤ cap then m else .stuck
theorem lm_ok {α : Type} {n : Nat} (h : n ≤ 100000) (m : M α) : lm n m = m := if_pos h
theorem okb {α β : Type} (a : α) (f : α → M β) : (M.ok a).bind f = f a := (rfl)
theorem exb {α β : Type} (c : Str) (f : α → M β) : (M.ex c : M α).bind f = .ex c := (rfl)
theorem stb {α β : Type} (f : α → M β) : (M.stuck : M α).bind f = .stuck := (rfl)
/-! ### statements one behind another -/
def sq (r : M R) (g : SF) : M R := match r with
  | .ok (.nx e) => g e
  | r => r
@[simp] theorem sq_nx (e : List L) (g : SF) : sq (.ok (.nx e)) g = g e := (rfl)
@[simp] theorem sq_rt (d : D) (g : SF) : sq (.ok (.rt d)) g = .ok (.rt d) := (rfl)
@[simp] theorem sq_bk (e : List L) (g : SF) : sq (.ok (.bk e)) g = .ok (.bk e) := (rfl)
@[simp] theorem sq_ct (e : List L) (g : SF) : sq (.ok (.ct e)) g = .ok (.ct e) := (rfl)
@[simp] theorem sq_ex (c : Str) (g : SF) : sq (.ex c) g = .ex c := (rfl)
@[simp] theorem sq_stuck (g : SF) : sq .stuck g = .stuck := (rfl)
theorem ap_sSeq (f g : SF) (env : List L) : sSeq f g env = sq (f env) g := by
  unfold sSeq sq
  cases f env with
  | stuck => rfl
  | ex c => rfl
  | ok r => cases r <;> rfl
theorem ap_sNil (env : List L) : sNil env = .ok (.nx env) := (rfl)
theorem ap_sRet (is : List Nat) (f : EF) (env : List L) : sRet is f env = (f (fzE is env)).bind fun l => l.fz.bind fun d => .ok (.rt d) := (rfl)
theorem ap_sRetN (env : List L) : sRetN env = .ok (.rt .none) := (rfl)
theorem ap_sCt (env : List L) : sCt env = .ok (.ct env) := (rfl)
theorem ap_sBk (env : List L) : sBk env = .ok (.bk env) := (rfl)
theorem ap_sRaise (c : Str) (env : List L) : sRaise c env = .ex c := (rfl)
theorem ap_sExp (is : List Nat) (f : EF) (env : List L) : sExp is f env = (f (fzE is env)).bind fun _ => .ok (.nx (fzE is env)) := (rfl)
theorem ap_sAsg (is : List Nat) (i : Nat) (f : EF) (env : List L) : sAsg is i f env = (f (fzE is env)).bind (putL i (fzE is env)) := (rfl)
theorem putL_d (i : Nat) (env : List L) (x : D) : putL i env (.d x) = .ok (.nx (env.set i (.d x))) := (rfl)
theorem putL_fr (i : Nat) (env : List L) (x : List D) : putL i env (.fr x) = .ok (.nx (env.set i (.own x))) := (rfl)
theorem ap_sIf (is : List Nat) (t : TF) (f g : SF) (env : List L) : sIf is t f g env = (t (fzE is env)).bind fun b => if b then f (fzE is env) else g (fzE is env) := (rfl)
theorem ap_sFor (is : List Nat) (it : IF) (g : GF) (b : SF) (env : List L) : sFor is it g b env = (it (fzE is env)).bind fun xs => forGo g b xs (fzE is env) := (rfl)
def un1 : M (List L) → M R
  | .ok e => .ok (.nx e)
  | _ => .stuck
@[simp] theorem un1_ok (e : List L) : un1 (.ok e) = .ok (.nx e) := (rfl)
theorem ap_sUnp (is : List Nat) (g : GF) (f : EF) (env : List L) : sUnp is g f env = (f (fzE is env)).bind fun l => l.fz.bind fun d => un1 (g d (fzE is env)) := by
  unfold sUnp un1
  rfl
def par2 (j : Nat) (b : L) (r : M R) : M R := match r with
  | .ok (.nx env2) => putL j env2 b
  | _ => .stuck
@[simp] theorem par2_nx (j : Nat) (b : L) (e : List L) : par2 j b (.ok (.nx e)) = putL j e b := (rfl)
theorem ap_sPar (is : List Nat) (i j : Nat) (f g : EF) (env : List L) : sPar is i j f g env = (f (fzE is env)).bind fun a => (g (fzE is env)).bind fun b => par2 j b (putL i (fzE is env) a) := (rfl)
theorem ap_sApp (is : List Nat) (i : Nat) (f : EF) (env : List L) : sApp is i f env = onOwn (fzE is env) i fun xs => (f (fzE is env)).bind fun l => l.fz.bind fun d => lm (xs.length + 1) (.ok (.nx ((fzE is env).set i (.own (xs ++ [d]))))) := (rfl)
def ext2 (env : List L) (i : Nat) (xs : List D) : L → M R
  | .fr ys => if xs.length + ys.length ≤ cap then .ok (.nx (env.set i (.own (xs ++ ys)))) else .stuck
  | .d (.list ys) => if xs.length + ys.length ≤ cap then .ok (.nx (env.set i (.own (xs ++ ys)))) else .stuck
  | _ => .stuck
@[simp] theorem ext2_fr (env : List L) (i : Nat) (xs ys : List D) : ext2 env i xs (.fr ys) = lm (xs.length + ys.length) (.ok (.nx (env.set i (.own (xs ++ ys))))) := (rfl)
@[simp] theorem ext2_d (env : List L) (i : Nat) (xs ys : List D) : ext2 env i xs (.d (.list ys)) = lm (xs.length + ys.length) (.ok (.nx (env.set i (.own (xs ++ ys))))) := (rfl)
theorem ap_sExt (is : List Nat) (i : Nat) (f : EF) (env : List L) : sExt is i f env = onOwn (fzE is env) i fun xs => (f (fzE is env)).bind (ext2 (fzE is env) i xs) := (rfl)
def on1 (o : Option L) (f : List D → M R) : M R := match o with
  | some (.own xs) => f xs
  | _ => .stuck
@[simp] theorem on1_own (xs : List D) (f : List D → M R) : on1 (some (.own xs)) f = f xs := (rfl)
theorem ap_onOwn (env : List L) (i : Nat) (f : List D → M R) : onOwn env i f = on1 env[i]? f := (rfl)
def sto2 (env : List L) (i : Nat) (d : D) (xs : List D) : L → M R
  | .d (.int k) => (match ixN xs.length k with
    | some j => .ok (.nx (env.set i (.own (xs.set j d))))
    | none => .stuck)
  | _ => .stuck
def sto3 (env : List L) (i : Nat) (d : D) (xs : List D) : Option Nat → M R
  | some j => .ok (.nx (env.set i (.own (xs.set j d))))
  | none => .stuck
@[simp] theorem sto2_int (env : List L) (i : Nat) (d : D) (xs : List D) (k : Int) : sto2 env i d xs (.d (.int k)) = sto3 env i d xs (ixN xs.length k) := (rfl)
@[simp] theorem sto3_some (env : List L) (i : Nat) (d : D) (xs : List D) (j : Nat) : sto3 env i d xs (some j) = .ok (.nx (env.set i (.own (xs.set j d)))) := (rfl)
theorem ap_sSto (is : List Nat) (i : Nat) (ix f : EF) (env : List L) : sSto is i ix f env = (f (fzE is env)).bind fun l => l.fz.bind fun d => onOwn (fzE is env) i fun xs => (ix (fzE is env)).bind (sto2 (fzE is env) i d xs) := (rfl)
/-! ### freezing -/
def fz1 (env : List L) (i : Nat) : Option L → List L
  | some (.own xs) => env.set i (.d (.list xs))
  | _ => env
@[simp] theorem fz1_d (env : List L) (i : Nat) (x : D) : fz1 env i (some (.d x)) = env := (rfl)
@[simp] theorem fz1_un (env : List L) (i : Nat) : fz1 env i (some .un) = env := (rfl)
@[simp] theorem fz1_own (env : List L) (i : Nat) (xs : List D) : fz1 env i (some (.own xs)) = env.set i (.d (.list xs)) := (rfl)
theorem ap_frz1 (env : List L) (i : Nat) : frz1 env i = fz1 env i env[i]? := (rfl)
theorem ap_fzE_nil (env : List L) : fzE [] env = env := (rfl)
theorem ap_fzE (env : List L) (i : Nat) (is : List Nat) : fzE (i :: is) env = fzE is (fz1 env i env[i]?) := (rfl)
/-! ### expressions -/
theorem ap_eC (d : D) (env : List L) : eC d env = .ok (.d d) := (rfl)
def vr : Option L → M L
  | none => .stuck
  | some .un => .stuck
  | some l => .ok l
@[simp] theorem vr_d (x : D) : vr (some (.d x)) = .ok (.d x) := (rfl)
@[simp] theorem vr_own (x : List D) : vr (some (.own x)) = .ok (.own x) := (rfl)
theorem ap_eVar (i : Nat) (env : List L) : eVar i env = vr env[i]? := by
  unfold eVar vr
  cases env[i]? with
  | none => rfl
  | some l => cases l <;> rfl
theorem ap_eBin (op : L → L → M L) (f g : EF) (env : List L) : eBin op f g env = (f env).bind fun a => (g env).bind fun b => op a b := (rfl)
theorem ap_eUn (op : L → M L) (f : EF) (env : List L) : eUn op f env = (f env).bind op := (rfl)
theorem ap_aNil (env : List L) : aNil env = .ok [] := (rfl)
theorem ap_aCons (f : EF) (g : AF) (env : List L) : aCons f g env = (f env).bind fun a => (g env).bind fun b => .ok (a :: b) := (rfl)
theorem ap_eFz (f : EF) (env : List L) : eFz f env = (f env).bind fzL := (rfl)
@[simp] theorem fzL_d (x : D) : fzL (.d x) = .ok (.d x) := (rfl)
@[simp] theorem fzL_fr (x : List D) : fzL (.fr x) = .ok (.d (.list x)) := (rfl)
@[simp] theorem fz_d (x : D) : L.fz (.d x) = .ok x := (rfl)
@[simp] theorem fz_fr (x : List D) : L.fz (.fr x) = .ok (.list x) := (rfl)
@[simp] theorem rd_d (x : D) : L.rd (.d x) = .ok x := (rfl)
@[simp] theorem rd_fr (x : List D) : L.rd (.fr x) = .ok (.list x) := (rfl)
@[simp] theorem rd_own (x : List D) : L.rd (.own x) = .ok (.list x) := (rfl)
@[simp] theorem allD_nil : allD [] = .ok [] := (rfl)
@[simp] theorem allD_cons (x : D) (r : List L) : allD (.d x :: r) = (allD r).bind fun ds => .ok (x :: ds) := (rfl)
theorem ap_eTup (g : AF) (env : List L) : eTup g env = (g env).bind fun ls => (allD ls).bind fun ds => lm ds.length (.ok (.d (.tuple ds))) := (rfl)
theorem ap_eLst (g : AF) (env : List L) : eLst g env = (g env).bind fun ls => (allD ls).bind fun ds => lm ds.length (.ok (.fr ds)) := (rfl)
theorem ap_eCall (f : List D → M D) (g : AF) (env : List L) : eCall f g env = (g env).bind fun ls => (allD ls).bind fun ds => (f ds).bind fun d => .ok (.d d) := (rfl)
theorem ap_eBi (op : List L → M L) (g : AF) (env : List L) : eBi op g env = (g env).bind op := (rfl)
@[simp] theorem boolL_d (b : Bool) : boolL (.d (.bool b)) = .ok b := (rfl)
theorem ap_tVal (f : EF) (env : List L) : tVal f env = (f env).bind boolL := (rfl)
theorem ap_tAn (f g : TF) (env : List L) : tAn f g env = (f env).bind fun a => if a then g env else .ok false := (rfl)
theorem ap_tOr (f g : TF) (env : List L) : tOr f g env = (f env).bind fun a => if a then .ok true else g env := (rfl)
theorem ap_tNt (f : TF) (env : List L) : tNt f env = (f env).bind fun a => .ok (!a) := (rfl)
theorem ap_tTrue (env : List L) : tTrue env = .ok true := (rfl)
theorem ap_eIf (t : TF) (f g : EF) (env : List L) : eIf t f g env = (t env).bind fun b => if b then f env else g env := (rfl)
theorem ap_eAn (f g : EF) (env : List L) : eAn f g env = (f env).bind fun a => (boolL a).bind fun b => if b then g env else okB false := (rfl)
theorem ap_eOr (f g : EF) (env : List L) : eOr f g env = (f env).bind fun a => (boolL a).bind fun b => if b then okB true else g env := (rfl)
theorem ap_eNt (f : EF) (env : List L) : eNt f env = (f env).bind fun a => (boolL a).bind fun b => okB (!b) := (rfl)
theorem ap_eChain (op op' : L → L → M L) (f g h : EF) (env : List L) : eChain op op' f g h env = (f env).bind fun a => (g env).bind fun b => (op a b).bind fun z => (boolL z).bind fun r => if r then (h env).bind fun c => op' b c else okB false := (rfl)
theorem ap_okB (b : Bool) : okB b = .ok (.d (.bool b)) := (rfl)
theorem ap_okI (b : Int) : okI b = .ok (.d (.int b)) := (rfl)
/-! operations -/
@[simp] theorem add_i (i j : Int) : opAdd (.d (.int i)) (.d (.int j)) = .ok (.d (.int (i + j))) := (rfl)
@[simp] theorem add_t (xs ys : List D) : opAdd (.d (.tuple xs)) (.d (.tuple ys)) = lm (xs.length + ys.length) (.ok (.d (.tuple (xs ++ ys)))) := (rfl)
@[simp] theorem add_of (xs ys : List D) : opAdd (.own xs) (.fr ys) = lm (xs.length + ys.length) (.ok (.fr (xs ++ ys))) := (rfl)
@[simp] theorem add_ff (xs ys : List D) : opAdd (.fr xs) (.fr ys) = lm (xs.length + ys.length) (.ok (.fr (xs ++ ys))) := (rfl)
@[simp] theorem add_df (xs ys : List D) : opAdd (.d (.list xs)) (.fr ys) = lm (xs.length + ys.length) (.ok (.fr (xs ++ ys))) := (rfl)
@[simp] theorem add_dd (xs ys : List D) : opAdd (.d (.list xs)) (.d (.list ys)) = lm (xs.length + ys.length) (.ok (.fr (xs ++ ys))) := (rfl)
@[simp] theorem add_od (xs ys : List D) : opAdd (.own xs) (.d (.list ys)) = lm (xs.length + ys.length) (.ok (.fr (xs ++ ys))) := (rfl)
@[simp] theorem add_fd (xs ys : List D) : opAdd (.fr xs) (.d (.list ys)) = lm (xs.length + ys.length) (.ok (.fr (xs ++ ys))) := (rfl)
@[simp] theorem sub_i (i j : Int) : opSub (.d (.int i)) (.d (.int j)) = .ok (.d (.int (i - j))) := (rfl)
@[simp] theorem mul_i (i j : Int) : opMul (.d (.int i)) (.d (.int j)) = opMulI i j := (rfl)
theorem mulI_r {i j : Int} (h1 : -(2 ^ 64) < j) (h2 : j < 2 ^ 64) : opMulI i j = .ok (.d (.int (i * j))) := by
  have e : small j = true := by
    unfold small
    rw [decide_eq_true h1, decide_eq_true h2]
    rfl
  unfold opMulI
  rw [e, Bool.or_true, Bool.true_or, if_pos rfl]
  rfl
theorem mulI_l {i j : Int} (h1 : -(2 ^ 64) < i) (h2 : i < 2 ^ 64) : opMulI i j = .ok (.d (.int (i * j))) := by
  have e : small i = true := by
    unfold small
    rw [decide_eq_true h1, decide_eq_true h2]
    rfl
  unfold opMulI
  rw [e, Bool.true_or, Bool.true_or, if_pos rfl]
  rfl
theorem mulI_m {i j : Int} (h1 : i.natAbs < 2 ^ 500) (h2 : j.natAbs < 2 ^ 500) : opMulI i j = .ok (.d (.int (i * j))) := by
  unfold opMulI mid
  rw [decide_eq_true h1, decide_eq_true h2]
  simp
  rfl
@[simp] theorem mul_fr (xs : List D) (k : Int) : opMul (.fr xs) (.d (.int k)) = opRep (.ok (.list xs)) k := (rfl)
theorem rep_ok {xs : List D} {k : Nat} (h : xs.length * k ≤ cap) (h1 : k ≤ cap) : opRep (.ok (.list xs)) (k : Int) = .ok (.fr (List.replicate k xs).flatten) := by
  have h2 : ((k : Int)).toNat = k := Int.toNat_natCast k
  have h3 : -(2 ^ 63) ≤ (k : Int) ∧ (k : Int) < 2 ^ 63 ∧ xs.length * ((k : Int)).toNat ≤ cap := by
    rw [h2]
    have : cap = 100000 := rfl
    omega
  unfold opRep
  dsimp only
  rw [if_pos h3, h2]
theorem div_i {i j : Int} (h : 0 < j) (h2 : j.natAbs < 2 ^ 500) : opDiv (.d (.int i)) (.d (.int j)) = .ok (.d (.int (i / j))) := by
  show (if 0 < j ∧ mid j = true then okI (i / j) else .stuck) = _
  rw [if_pos ⟨h, decide_eq_true h2⟩]
  rfl
theorem mod_i {i j : Int} (h : 0 < j) : opMod (.d (.int i)) (.d (.int j)) = .ok (.d (.int (i % j))) := by
  show (if 0 < j then okI (i % j) else .stuck) = _
  rw [if_pos h]
  rfl
@[simp] theorem lt_i (i j : Int) : opLt (.d (.int i)) (.d (.int j)) = .ok (.d (.bool (decide (i < j)))) := (rfl)
@[simp] theorem le_i (i j : Int) : opLe (.d (.int i)) (.d (.int j)) = .ok (.d (.bool (decide (i ≤ j)))) := (rfl)
@[simp] theorem gt_i (i j : Int) : opGt (.d (.int i)) (.d (.int j)) = .ok (.d (.bool (decide (j < i)))) := (rfl)
@[simp] theorem ge_i (i j : Int) : opGe (.d (.int i)) (.d (.int j)) = .ok (.d (.bool (decide (j ≤ i)))) := (rfl)
@[simp] theorem bLen_t (xs : List D) : bLen [.d (.tuple xs)] = .ok (.d (.int xs.length)) := (rfl)
@[simp] theorem bLen_l (xs : List D) : bLen [.d (.list xs)] = .ok (.d (.int xs.length)) := (rfl)
@[simp] theorem bLen_f (xs : List D) : bLen [.fr xs] = .ok (.d (.int xs.length)) := (rfl)
@[simp] theorem bLen_o (xs : List D) : bLen [.own xs] = .ok (.d (.int xs.length)) := (rfl)
@[simp] theorem bLen_s (xs : List Int) : bLen [.d (scr xs)] = .ok (.d (.int xs.length)) := by
  show okI ((xs.map PyData.int).length : Int) = _
  rw [List.length_map]
  rfl
@[simp] theorem bInt_i (i : Int) : bInt [.d (.int i)] = .ok (.d (.int i)) := (rfl)
@[simp] theorem bInt_b (i : Bool) : bInt [.d (.bool i)] = .ok (.d (.int (if i then 1 else 0))) := (rfl)
@[simp] theorem bList_t (xs : List D) : bList [.d (.tuple xs)] = .ok (.fr xs) := (rfl)
@[simp] theorem bList_l (xs : List D) : bList [.d (.list xs)] = .ok (.fr xs) := (rfl)
@[simp] theorem bList_f (xs : List D) : bList [.fr xs] = .ok (.fr xs) := (rfl)
@[simp] theorem bList_o (xs : List D) : bList [.own xs] = .ok (.fr xs) := (rfl)
@[simp] theorem bTuple_t (xs : List D) : bTuple [.d (.tuple xs)] = .ok (.d (.tuple xs)) := (rfl)
@[simp] theorem bTuple_l (xs : List D) : bTuple [.d (.list xs)] = .ok (.d (.tuple xs)) := (rfl)
@[simp] theorem bTuple_f (xs : List D) : bTuple [.fr xs] = .ok (.d (.tuple xs)) := (rfl)
@[simp] theorem bTuple_o (xs : List D) : bTuple [.own xs] = .ok (.d (.tuple xs)) := (rfl)
@[simp] theorem bMax_2 (i j : Int) : bMax [.d (.int i), .d (.int j)] = .ok (.d (.int (if j > i then j else i))) := (rfl)
@[simp] theorem bMin_2 (i j : Int) : bMin [.d (.int i), .d (.int j)] = .ok (.d (.int (if j < i then j else i))) := (rfl)
theorem intsOf_map : ∀ ns : List Int, intsOf (ns.map .int) = some ns
  | [] => rfl
  | n :: ns => by
    show (intsOf (ns.map .int)).map (n :: ·) = _
    rw [intsOf_map ns]
    rfl
theorem boolsOf_map : ∀ ns : List Bool, boolsOf (ns.map .bool) = some ns
  | [] => rfl
  | n :: ns => by
    show (boolsOf (ns.map .bool)).map (n :: ·) = _
    rw [boolsOf_map ns]
    rfl
@[simp] theorem bSum_t (ns : List Int) : bSum2 [.d (.tuple (ns.map .int))] = .ok (.d (.int ns.sum)) := by
  simp [bSum2, intsOf_map, okI]
@[simp] theorem bSum_f (ns : List Int) : bSum2 [.fr (ns.map .int)] = .ok (.d (.int ns.sum)) := by
  simp [bSum2, intsOf_map, okI]
@[simp] theorem bSum_l (ns : List Int) : bSum2 [.d (.list (ns.map .int))] = .ok (.d (.int ns.sum)) := by
  simp [bSum2, intsOf_map, okI]
@[simp] theorem bAll_f (ns : List Bool) : bAll [.fr (ns.map .bool)] = .ok (.d (.bool (ns.all id))) := by
  simp [bAll, rdBools, boolsOf_map, okB]
@[simp] theorem bAny_f (ns : List Bool) : bAny [.fr (ns.map .bool)] = .ok (.d (.bool (ns.any id))) := by
  simp [bAny, rdBools, boolsOf_map, okB]
@[simp] theorem isi_ap (T : Str) (x : D) : opIsi T (.d x) = (match x with
  | .dict _ => .stuck
  | d => okB (isiD T d)) := by
  cases x <;> rfl
/-! indexing -/
theorem at_nat {α : Type} {xs : List α} {k : Nat} {x : α} (h : xs[k]? = some x) : atI xs (k : Int) = some x := by
  obtain ⟨hl, _⟩ := List.getElem?_eq_some_iff.mp h
  have e : ixN xs.length (k : Int) = some k := by
    unfold ixN
    rw [if_pos (by omega), if_pos (by omega), Int.toNat_natCast]
  unfold atI
  rw [e]
  exact h
theorem ixN_nat {n k : Nat} (h : k < n) : ixN n (k : Int) = some k := by
  unfold ixN
  rw [if_pos (by omega), if_pos (by omega), Int.toNat_natCast]
def ix1 : Option D → M L
  | some x => .ok (.d x)
  | none => .stuck
@[simp] theorem ix1_some (x : D) : ix1 (some x) = .ok (.d x) := (rfl)
@[simp] theorem ix_t (xs : List D) (i : Int) : opIx (.d (.tuple xs)) (.d (.int i)) = ix1 (atI xs i) := by
  show (match atI xs i with
    | some x => (.ok (.d x) : M L)
    | none => .stuck) = _
  cases atI xs i <;> rfl
@[simp] theorem ix_l (xs : List D) (i : Int) : opIx (.d (.list xs)) (.d (.int i)) = ix1 (atI xs i) := by
  show (match atI xs i with
    | some x => (.ok (.d x) : M L)
    | none => .stuck) = _
  cases atI xs i <;> rfl
@[simp] theorem ix_f (xs : List D) (i : Int) : opIx (.fr xs) (.d (.int i)) = ix1 (atI xs i) := by
  show (match atI xs i with
    | some x => (.ok (.d x) : M L)
    | none => .stuck) = _
  cases atI xs i <;> rfl
@[simp] theorem ix_o (xs : List D) (i : Int) : opIx (.own xs) (.d (.int i)) = ix1 (atI xs i) := by
  show (match atI xs i with
    | some x => (.ok (.d x) : M L)
    | none => .stuck) = _
  cases atI xs i <;> rfl
@[simp] theorem ix_s (xs : List Int) (i : Int) : opIx (.d (scr xs)) (.d (.int i)) = ix1 (atI (xs.map .int) i) := by
  show (match atI (xs.map PyData.int) i with
    | some x => (.ok (.d x) : M L)
    | none => .stuck) = _
  cases atI (xs.map PyData.int) i <;> rfl
@[simp] theorem at_0 {α : Type} (x : α) (xs : List α) : atI (x :: xs) 0 = some x := at_nat (k := 0) rfl
@[simp] theorem at_1 {α : Type} (x y : α) (xs : List α) : atI (x :: y :: xs) 1 = some y := at_nat (k := 1) rfl
@[simp] theorem at_2 {α : Type} (x y z : α) (xs : List α) : atI (x :: y :: z :: xs) 2 = some z := at_nat (k := 2) rfl
/-! slices -/
theorem ap_oNone (env : List L) : oNone env = .ok none := (rfl)
def o1 : L → M (Option Int)
  | .d (.int i) => .ok (some i)
  | _ => .stuck
@[simp] theorem o1_i (i : Int) : o1 (.d (.int i)) = .ok (some i) := (rfl)
theorem ap_oSome (f : EF) (env : List L) : oSome f env = (f env).bind o1 := (rfl)
theorem ap_eSl (f : EF) (lo hi : OF) (env : List L) : eSl f lo hi env = (f env).bind fun a => (lo env).bind fun l => (hi env).bind fun h => opSl a l h := (rfl)
@[simp] theorem sl_t (xs : List D) (lo hi : Option Int) : opSl (.d (.tuple xs)) lo hi = .ok (.d (.tuple (cutD xs lo hi))) := (rfl)
@[simp] theorem sl_l (xs : List D) (lo hi : Option Int) : opSl (.d (.list xs)) lo hi = .ok (.fr (cutD xs lo hi)) := (rfl)
@[simp] theorem sl_f (xs : List D) (lo hi : Option Int) : opSl (.fr xs) lo hi = .ok (.fr (cutD xs lo hi)) := (rfl)
@[simp] theorem sl_o (xs : List D) (lo hi : Option Int) : opSl (.own xs) lo hi = .ok (.fr (cutD xs lo hi)) := (rfl)
theorem cut_to (xs : List D) (k : Nat) : cutD xs none (some (k : Int)) = xs.take k := by
  unfold cutD
  rw [HT.sIx_none, HT.sIx_nat, List.drop_zero, Nat.sub_zero]
  by_cases h : k ≤ xs.length
  · rw [Nat.min_eq_left h]
  · rw [Nat.min_eq_right (by omega), List.take_of_length_le (Nat.le_refl _), List.take_of_length_le (by omega)]
theorem cut_from (xs : List D) (k : Nat) : cutD xs (some (k : Int)) none = xs.drop k := by
  unfold cutD
  rw [HT.sIx_none, HT.sIx_nat]
  by_cases h : k ≤ xs.length
  · rw [Nat.min_eq_left h]
    exact List.take_of_length_le (by simp)
  · rw [Nat.min_eq_right (by omega)]
    rw [List.drop_of_length_le (by omega : xs.length ≤ xs.length), List.drop_of_length_le (by omega : xs.length ≤ k)]
    simp
theorem cut_init (xs : List D) : cutD xs none (some (-1)) = xs.dropLast := by
  unfold cutD
  rw [HT.sIx_none, List.drop_zero, Nat.sub_zero, List.dropLast_eq_take]
  unfold HT.sIx
  dsimp only
  rw [if_pos (show (-1 : Int) < 0 by decide)]
  congr 1
  omega
/-! ### iterables -/
@[simp] theorem itL_t (xs : List D) : itL (.d (.tuple xs)) = .ok xs := (rfl)
@[simp] theorem itL_l (xs : List D) : itL (.d (.list xs)) = .ok xs := (rfl)
theorem ap_iEx (f : EF) (env : List L) : iEx f env = (f env).bind fun l => (fzL l).bind itL := (rfl)
theorem ap_iEn (f : EF) (env : List L) : iEn f env = (f env).bind fun l => (fzL l).bind fun l => (itL l).bind fun xs => .ok (enumD 0 xs) := (rfl)
theorem ap_iZp (f g : EF) (env : List L) : iZp f g env = (f env).bind fun a => (fzL a).bind fun a => (g env).bind fun b => (fzL b).bind fun b => zipL a b := (rfl)
@[simp] theorem zipL_t (xs ys : List D) : zipL (.d (.tuple xs)) (.d (.tuple ys)) = .ok (zipD xs ys) := (rfl)
@[simp] theorem zipL_l (xs ys : List D) : zipL (.d (.list xs)) (.d (.list ys)) = .ok (zipD xs ys) := (rfl)
theorem ap_iR1 (f : EF) (env : List L) : iR1 f env = (f env).bind (int1 fun j => if b62 j = true then .ok (rngD 0 j.toNat) else .stuck) := (rfl)
theorem ap_iR2 (f g : EF) (env : List L) : iR2 f g env = (f env).bind fun a => (g env).bind fun b => int1 (fun i => int1 (fun j => if b62 i = true ∧ b62 j = true then .ok (rngD i (j - i).toNat) else .stuck) b) a := (rfl)
@[simp] theorem int1_i (f : Int → M (List D)) (i : Int) : int1 f (.d (.int i)) = f i := (rfl)
theorem b62_in {i : Int} (h1 : -100000000 ≤ i) (h2 : i ≤ 100000000) : b62 i = true := by
  unfold b62
  rw [decide_eq_true (by omega), decide_eq_true (by omega)]
  rfl
theorem rng0 (n : Nat) : rngD 0 n = (List.range n).map fun i => .int (i : Nat) := by
  unfold rngD
  congr 1
  funext i
  rw [Int.zero_add]
/-! ### targets -/
theorem ap_gNm (i : Nat) (x : D) (env : List L) : gNm i x env = .ok (env.set i (.d x)) := (rfl)
theorem ap_gTp (gs : List GF) (xs : List D) (env : List L) : gTp gs (.tuple xs) env = gAll gs xs env := (rfl)
theorem ap_gAll_nil (env : List L) : gAll [] [] env = .ok env := (rfl)
theorem ap_gAll (g : GF) (gs : List GF) (x : D) (xs : List D) (env : List L) : gAll (g :: gs) (x :: xs) env = (g x env).bind fun env => gAll gs xs env := (rfl)
/-! ### comprehensions -/
theorem lcGo_filter {α : Type} {g : GF} {t : TF} {el : EF} {env : List L} (enc : α → D) (p : α → Bool) (F : α → D) : ∀ {xs : List α},
    (∀ x ∈ xs, ∃ e2, g (enc x) env = .ok e2 ∧ t e2 = .ok (p x) ∧ (p x = true → ∃ l, el e2 = .ok l ∧ l.fz = .ok (F x))) → lcGo g t el env (xs.map enc) = .ok ((xs.filter p).map F)
  | [], _ => rfl
  | x :: xs, h => by
    obtain ⟨e2, h1, h2, h3⟩ := h x (List.mem_cons_self ..)
    have ih := lcGo_filter enc p F fun y hy => h y (List.mem_cons_of_mem _ hy)
    show (match lcOne g t el env (enc x) with
      | .ok ys => (match lcGo g t el env (xs.map enc) with
        | .ok zs => (.ok (ys ++ zs) : M (List D))
        | _ => .stuck)
      | _ => .stuck) = _
    cases hp : p x with
    | true =>
      obtain ⟨l, h4, h5⟩ := h3 hp
      have e : lcOne g t el env (enc x) = .ok [F x] := by
        unfold lcOne
        simp only [h1, h2, hp, h4, h5]
      rw [e, ih, List.filter_cons_of_pos (by rw [hp])]
      rfl
    | false =>
      have e : lcOne g t el env (enc x) = .ok [] := by
        unfold lcOne
        simp only [h1, h2, hp]
      rw [e, ih, List.filter_cons_of_neg (by rw [hp]; simp)]
      rfl
theorem bind_fz {m : M L} {d : D} (h : m.bind L.fz = .ok d) : ∃ l, m = .ok l ∧ l.fz = .ok d := by
  cases m with
  | stuck => cases h
  | ex c => cases h
  | ok l => exact ⟨l, rfl, h⟩
theorem eLc_filter {α : Type} {own : List Nat} {it : IF} {g : GF} {t : TF} {el : EF} {env : List L} {ds : List D} (enc : α → D) (p : α → Bool) (F : α → D) {xs : List α} (hit : it env = .ok ds) (hd : ds = xs.map enc) (hl : xs.length ≤ cap)
    (h : ∀ x ∈ xs, ∃ e2, g (enc x) (wipeE env own) = .ok e2 ∧ t e2 = .ok (p x) ∧ (p x = true → (el e2).bind L.fz = .ok (F x))) : eLc own it g t el env = .ok (.fr ((xs.filter p).map F)) := by
  subst hd
  unfold eLc
  rw [hit, M.ok_bind, List.length_map, if_pos hl, lcGo_filter enc p F fun x hx => ?_]
  obtain ⟨e2, h1, h2, h3⟩ := h x hx
  exact ⟨e2, h1, h2, fun hp => bind_fz (h3 hp)⟩
theorem eLc_map {α : Type} {own : List Nat} {it : IF} {g : GF} {el : EF} {env : List L} {ds : List D} (enc : α → D) (F : α → D) {xs : List α} (hit : it env = .ok ds) (hd : ds = xs.map enc) (hl : xs.length ≤ cap)
    (h : ∀ x ∈ xs, ∃ e2, g (enc x) (wipeE env own) = .ok e2 ∧ (el e2).bind L.fz = .ok (F x)) : eLc own it g tTrue el env = .ok (.fr (xs.map F)) := by
  rw [eLc_filter enc (fun _ => true) F hit hd hl fun x hx => ?_, List.filter_eq_self.mpr fun _ _ => rfl]
  obtain ⟨e2, h1, h2⟩ := h x hx
  exact ⟨e2, h1, rfl, fun _ => h2⟩
/-! ### loops -/
theorem forGo_inv {g : GF} {body : SF} (I : Nat → List L → Prop) : ∀ {xs : List D} {n : Nat} {env : List L}, (∀ i x env, xs[i]? = some x → I (n + i) env → ∃ e2 e3, g x env = .ok e2 ∧ (body e2 = .ok (.nx e3) ∨ body e2 = .ok (.ct e3)) ∧ I (n + i + 1) e3) → I n env →
    ∃ e, forGo g body xs env = .ok (.nx e) ∧ I (n + xs.length) e
  | [], n, env, _, h => ⟨env, rfl, h⟩
  | x :: xs, n, env, hs, h => by
    obtain ⟨e2, e3, h1, h2, h3⟩ := hs 0 x env rfl h
    have ih := forGo_inv I (xs := xs) (n := n + 1) (env := e3) (fun i y env hy hi => by
      have e : n + 1 + i = n + (i + 1) := by omega
      rw [e] at hi ⊢
      exact hs (i + 1) y env (by simpa using hy) hi) h3
    obtain ⟨e, h4, h5⟩ := ih
    refine ⟨e, ?_, by rw [List.length_cons]; have q : n + 1 + xs.length = n + (xs.length + 1) := by omega
                      rw [← q]; exact h5⟩
    unfold forGo
    rw [h1]
    rcases h2 with h2 | h2 <;> simp only [h2] <;> exact h4
theorem forGo_fold {σ : Type} {g : GF} {body : SF} (V : σ → List L) (st : σ → D → σ) : ∀ {xs : List D} {s : σ}, (∀ s x, x ∈ xs → ∃ e2, g x (V s) = .ok e2 ∧ (body e2 = .ok (.nx (V (st s x))) ∨ body e2 = .ok (.ct (V (st s x))))) →
    forGo g body xs (V s) = .ok (.nx (V (xs.foldl st s)))
  | [], s, _ => rfl
  | x :: xs, s, h => by
    obtain ⟨e2, h1, h2⟩ := h s x (List.mem_cons_self ..)
    have ih := forGo_fold V st (xs := xs) (s := st s x) fun s y hy => h s y (List.mem_cons_of_mem _ hy)
    unfold forGo
    rw [h1]
    rcases h2 with h2 | h2 <;> simp only [h2] <;> exact ih
/-- a loop over items of a Lean type, its state of a Lean type -/
theorem forGo_T {α σ : Type} {g : GF} {body : SF} (enc : α → D) (V : σ → List L) (st : σ → α → σ) (P : Nat → σ → Prop) : ∀ {xs : List α} {n : Nat} {s : σ}, P n s → (∀ i s x, xs[i]? = some x → P (n + i) s → ∃ e2, g (enc x) (V s) = .ok e2 ∧ (body e2 = .ok (.nx (V (st s x))) ∨ body e2 = .ok (.ct (V (st s x)))) ∧ P (n + i + 1) (st s x)) →
    forGo g body (xs.map enc) (V s) = .ok (.nx (V (xs.foldl st s))) ∧ P (n + xs.length) (xs.foldl st s)
  | [], n, s, hp, _ => ⟨rfl, hp⟩
  | x :: xs, n, s, hp, h => by
    obtain ⟨e2, h1, h2, h3⟩ := h 0 s x rfl hp
    obtain ⟨i1, i2⟩ := forGo_T enc V st P (xs := xs) (n := n + 1) (s := st s x) h3 fun i s y hy hq => by
      have e : n + 1 + i = n + (i + 1) := by omega
      rw [e] at hq ⊢
      exact h (i + 1) s y (by simpa using hy) hq
    refine ⟨?_, by
      have q : n + 1 + xs.length = n + (xs.length + 1) := by omega
      rw [q] at i2
      exact i2⟩
    rw [List.map_cons]
    unfold forGo
    rw [h1]
    rcases h2 with h2 | h2 <;> simp only [h2] <;> exact i1
theorem forGo_F {α σ : Type} {g : GF} {body : SF} (enc : α → D) (V : σ → List L) (st : σ → α → σ) {xs : List α} {s : σ} (h : ∀ s x, x ∈ xs → ∃ e2, g (enc x) (V s) = .ok e2 ∧ (body e2 = .ok (.nx (V (st s x))) ∨ body e2 = .ok (.ct (V (st s x))))) :
    forGo g body (xs.map enc) (V s) = .ok (.nx (V (xs.foldl st s))) :=
  (forGo_T (n := 0) enc V st (fun _ _ => True) trivial fun i s x hx _ => by
    obtain ⟨e2, h1, h2⟩ := h s x (List.mem_of_getElem? hx)
    exact ⟨e2, h1, h2, trivial⟩).1
theorem ap_semF (n : Nat) (f : SF) (ds : List D) : semF n f ds = (f (startL n ds)).bind semR := (rfl)
@[simp] theorem semR_nx (e : List L) : semR (.nx e) = .ok .none := (rfl)
@[simp] theorem semR_rt (d : D) : semR (.rt d) = .ok d := (rfl)
end PD
/-! data with a Lean type -/
namespace PD
open PySem PySem.Spec PyProof.Rows L2
class Dt (α : Type) [DecidableEq α] where
  D : α → PyData
  dep : Nat
  le : ∀ a, (D a).depth ≤ dep
  lay : ∀ a, (D a).canLay0 = true
  eqv : ∀ a b, PyData.eqv (D a) (D b) = decide (a = b)
  un : ∀ a, unS (D a) = D a
theorem beq_dec {α : Type} [BEq α] [LawfulBEq α] [DecidableEq α] (a b : α) : (a == b) = decide (a = b) := by
  rw [Bool.eq_iff_iff, beq_iff_eq, decide_eq_true_eq]
instance : Dt Int where
  D := .int
  dep := 0
  le _ := Nat.le_refl _
  lay _ := rfl
  eqv a b := by simp only [PyData.eqv]; exact beq_dec a b
  un _ := rfl
instance : Dt Nat where
  D n := .int n
  dep := 0
  le _ := Nat.le_refl _
  lay _ := rfl
  eqv a b := by
    simp only [PyData.eqv]
    rw [beq_dec]
    exact decide_eq_decide.mpr Int.ofNat_inj
  un _ := rfl
instance : Dt Bool where
  D := .bool
  dep := 0
  le _ := Nat.le_refl _
  lay _ := rfl
  eqv a b := by simp only [PyData.eqv]; exact beq_dec a b
  un _ := rfl
section
variable {α β γ : Type} [DecidableEq α] [DecidableEq β] [DecidableEq γ] [Dt α] [Dt β] [Dt γ]
theorem dep_all : ∀ xs : List α, PyData.depthAll (xs.map Dt.D) ≤ Dt.dep α
  | [] => Nat.zero_le _
  | x :: xs => by
    rw [List.map_cons, PyData.depthAll]
    exact Nat.max_le.mpr ⟨Dt.le x, dep_all xs⟩
theorem lay_all : ∀ xs : List α, PyData.canLayAll0 (xs.map Dt.D) = true
  | [] => rfl
  | x :: xs => by rw [List.map_cons, PyData.canLayAll0, Dt.lay x, lay_all xs]; rfl
theorem eqv_all : ∀ xs ys : List α, PyData.eqvAll (xs.map Dt.D) (ys.map Dt.D) = decide (xs = ys)
  | [], [] => by simp only [List.map_nil, PyData.eqvAll, decide_true]
  | [], _ :: _ => by simp [PyData.eqvAll]
  | _ :: _, [] => by simp [PyData.eqvAll]
  | x :: xs, y :: ys => by
    rw [List.map_cons, List.map_cons, PyData.eqvAll, Dt.eqv x y, eqv_all xs ys, ← Bool.decide_and]
    exact decide_eq_decide.mpr (by rw [List.cons.injEq])
/-- a list -/
instance : Dt (List α) where
  D xs := .list (xs.map Dt.D)
  dep := Dt.dep α + 1
  le xs := by simp only [PyData.depth]; have := dep_all xs; omega
  lay xs := by simp only [PyData.canLay0]; exact lay_all xs
  eqv xs ys := by simp only [PyData.eqv]; exact eqv_all xs ys
  un _ := rfl
/-- a tuple of one type -/
structure Tp (α : Type) where
  l : List α
deriving DecidableEq
instance : Dt (Tp α) where
  D xs := .tuple (xs.l.map Dt.D)
  dep := Dt.dep α + 1
  le xs := by simp only [PyData.depth]; have := dep_all xs.l; omega
  lay xs := by simp only [PyData.canLay0]; exact lay_all xs.l
  eqv xs ys := by
    simp only [PyData.eqv]
    rw [eqv_all]
    exact decide_eq_decide.mpr ⟨fun h => by cases xs; cases ys; simp at h; rw [h], fun h => by rw [h]⟩
  un _ := rfl
/-- a pair -/
instance : Dt (α × β) where
  D p := .tuple [Dt.D p.1, Dt.D p.2]
  dep := max (Dt.dep α) (Dt.dep β) + 1
  le p := by
    simp only [PyData.depth, PyData.depthAll]
    have h1 := Dt.le p.1
    have h2 := Dt.le p.2
    omega
  lay p := by simp only [PyData.canLay0, PyData.canLayAll0, Dt.lay]; rfl
  eqv p q := by
    simp only [PyData.eqv, PyData.eqvAll, Dt.eqv, Bool.and_true]
    rw [← Bool.decide_and]
    exact decide_eq_decide.mpr Prod.ext_iff.symm
  un _ := rfl
/-- three -/
structure T3 (α β γ : Type) where
  a : α
  b : β
  c : γ
deriving DecidableEq
instance : Dt (T3 α β γ) where
  D p := .tuple [Dt.D p.a, Dt.D p.b, Dt.D p.c]
  dep := max (Dt.dep α) (max (Dt.dep β) (Dt.dep γ)) + 1
  le p := by
    simp only [PyData.depth, PyData.depthAll]
    have h1 := Dt.le p.a
    have h2 := Dt.le p.b
    have h3 := Dt.le p.c
    omega
  lay p := by simp only [PyData.canLay0, PyData.canLayAll0, Dt.lay]; rfl
  eqv p q := by
    simp only [PyData.eqv, PyData.eqvAll, Dt.eqv, Bool.and_true]
    rw [← Bool.decide_and, ← Bool.decide_and]
    exact decide_eq_decide.mpr ⟨fun ⟨h1, h2, h3⟩ => by cases p; cases q; simp at h1 h2 h3; rw [h1, h2, h3], fun h => by rw [h]; exact ⟨rfl, rfl, rfl⟩⟩
  un _ := rfl
theorem shaped_D (h : Dt.dep α ≤ 64) (a : α) : SeqAt.shaped (Dt.D a) = true := by
  unfold SeqAt.shaped
  rw [Dt.lay, decide_eq_true (Nat.le_trans (Dt.le a) h)]
  rfl
theorem eq2_D (h : Dt.dep α ≤ 64) (neg : Bool) (a b : α) : opEq2 neg (.ok (Dt.D a)) (.ok (Dt.D b)) = .ok (.d (.bool (if neg then !decide (a = b) else decide (a = b)))) := by
  unfold opEq2
  simp only [Dt.un, shaped_D h, and_self, if_true, Dt.eqv]
  rfl
/-- x == y -/
theorem eq_D {x y : L} {a b : α} (h : Dt.dep α ≤ 64) (hx : x.rd = .ok (Dt.D a)) (hy : y.rd = .ok (Dt.D b)) : opEq false x y = .ok (.d (.bool (decide (a = b)))) := by
  unfold opEq
  rw [hx, hy, eq2_D h]
  rfl
theorem ne_D {x y : L} {a b : α} (h : Dt.dep α ≤ 64) (hx : x.rd = .ok (Dt.D a)) (hy : y.rd = .ok (Dt.D b)) : opEq true x y = .ok (.d (.bool (!decide (a = b)))) := by
  unfold opEq
  rw [hx, hy, eq2_D h]
  rfl
theorem any_D (a : α) : ∀ ys : List α, ((ys.map Dt.D).any fun z => PyData.eqv z (Dt.D a)) = decide (a ∈ ys)
  | [] => by simp
  | y :: ys => by
    rw [List.map_cons, List.any_cons, any_D a ys, Dt.eqv, ← Bool.decide_or]
    exact decide_eq_decide.mpr (by rw [List.mem_cons, eq_comm])
/-- x in a list -/
theorem in_D {x y : L} {a : α} {ys : List α} (h : Dt.dep α ≤ 63) (hx : x.rd = .ok (Dt.D a)) (hy : y.rd = .ok (.list (ys.map Dt.D))) : opIn false x y = .ok (.d (.bool (decide (a ∈ ys)))) := by
  unfold opIn
  rw [hx, hy]
  show (if SeqAt.shaped (Dt.D a) = true ∧ SeqAt.shaped (.list (ys.map Dt.D)) = true then okB ((ys.map Dt.D).any fun z => PyData.eqv z (Dt.D a)) else .stuck) = _
  rw [if_pos ⟨shaped_D (by omega) a, shaped_D (α := List α) (show Dt.dep α + 1 ≤ 64 by omega) ys⟩, any_D]
  rfl
theorem notin_D {x y : L} {a : α} {ys : List α} (h : Dt.dep α ≤ 63) (hx : x.rd = .ok (Dt.D a)) (hy : y.rd = .ok (.list (ys.map Dt.D))) : opIn true x y = .ok (.d (.bool (!decide (a ∈ ys)))) := by
  unfold opIn
  rw [hx, hy]
  show (if SeqAt.shaped (Dt.D a) = true ∧ SeqAt.shaped (.list (ys.map Dt.D)) = true then okB (!(ys.map Dt.D).any fun z => PyData.eqv z (Dt.D a)) else .stuck) = _
  rw [if_pos ⟨shaped_D (by omega) a, shaped_D (α := List α) (show Dt.dep α + 1 ≤ 64 by omega) ys⟩, any_D]
  rfl
theorem notin_mem {x y : L} {a : α} {ys : List α} (h : Dt.dep α ≤ 63) (hx : x.rd = .ok (Dt.D a)) (hy : y.rd = .ok (.list (ys.map Dt.D))) (hm : a ∈ ys) : opIn true x y = .ok (.d (.bool false)) := by
  rw [notin_D h hx hy, decide_eq_true hm]
  rfl
theorem notin_not {x y : L} {a : α} {ys : List α} (h : Dt.dep α ≤ 63) (hx : x.rd = .ok (Dt.D a)) (hy : y.rd = .ok (.list (ys.map Dt.D))) (hm : a ∉ ys) : opIn true x y = .ok (.d (.bool true)) := by
  rw [notin_D h hx hy, decide_eq_false hm]
  rfl
theorem in_mem {x y : L} {a : α} {ys : List α} (h : Dt.dep α ≤ 63) (hx : x.rd = .ok (Dt.D a)) (hy : y.rd = .ok (.list (ys.map Dt.D))) (hm : a ∈ ys) : opIn false x y = .ok (.d (.bool true)) := by
  rw [in_D h hx hy, decide_eq_true hm]
theorem in_not {x y : L} {a : α} {ys : List α} (h : Dt.dep α ≤ 63) (hx : x.rd = .ok (Dt.D a)) (hy : y.rd = .ok (.list (ys.map Dt.D))) (hm : a ∉ ys) : opIn false x y = .ok (.d (.bool false)) := by
  rw [in_D h hx hy, decide_eq_false hm]
end
/-- x in (y, z), whole numbers -/
theorem in_t2 (i j k : Int) : opIn false (.d (.int i)) (.d (.tuple [.int j, .int k])) = .ok (.d (.bool (decide (i = j ∨ i = k)))) := by
  show okB (PyData.eqv (.int j) (.int i) || (PyData.eqv (.int k) (.int i) || false)) = _
  simp only [PyData.eqv, beq_dec, Bool.or_false, ← Bool.decide_or]
  rw [show decide (j = i ∨ k = i) = decide (i = j ∨ i = k) from decide_eq_decide.mpr (by omega)]
  rfl
/-! more small facts -/
theorem isi_ii (i : Int) : opIsi "int" (.d (.int i)) = .ok (.d (.bool true)) := (rfl)
theorem isi_ib (i : Bool) : opIsi "int" (.d (.bool i)) = .ok (.d (.bool true)) := (rfl)
theorem isi_bi (i : Int) : opIsi "bool" (.d (.int i)) = .ok (.d (.bool false)) := (rfl)
theorem isi_bb (i : Bool) : opIsi "bool" (.d (.bool i)) = .ok (.d (.bool true)) := (rfl)
theorem isi_tt (xs : List PyData) : opIsi "tuple" (.d (.tuple xs)) = .ok (.d (.bool true)) := (rfl)
theorem isi_tl (xs : List PyData) : opIsi "tuple" (.d (.list xs)) = .ok (.d (.bool false)) := (rfl)
theorem isi_ll (xs : List PyData) : opIsi "list" (.d (.list xs)) = .ok (.d (.bool true)) := (rfl)
theorem isi_lt (xs : List PyData) : opIsi "list" (.d (.tuple xs)) = .ok (.d (.bool false)) := (rfl)
theorem isi_ss (x : Str) : opIsi "str" (.d (.str x)) = .ok (.d (.bool true)) := (rfl)
theorem and_d (b c : Bool) : (if b = true then (M.ok (L.d (.bool c)) : M L) else .ok (.d (.bool false))) = .ok (.d (.bool (b && c))) := by cases b <;> rfl
theorem or_d (b c : Bool) : (if b = true then (M.ok (L.d (.bool true)) : M L) else .ok (.d (.bool c))) = .ok (.d (.bool (b || c))) := by cases b <;> rfl
theorem and_b (b c : Bool) : (if b = true then (M.ok c : M Bool) else .ok false) = .ok (b && c) := by cases b <;> rfl
theorem or_b (b c : Bool) : (if b = true then (M.ok true : M Bool) else .ok c) = .ok (b || c) := by cases b <;> rfl
section
variable {α β γ : Type} [DecidableEq α] [DecidableEq β] [DecidableEq γ] [Dt α] [Dt β] [Dt γ]
theorem D_int (i : Int) : Dt.D i = PyData.int i := (rfl)
theorem D_nat (i : Nat) : Dt.D i = PyData.int (i : Int) := (rfl)
theorem D_bool (i : Bool) : Dt.D i = PyData.bool i := (rfl)
theorem D_pair (a : α) (b : β) : Dt.D (a, b) = PyData.tuple [Dt.D a, Dt.D b] := (rfl)
theorem D_t3 (a : α) (b : β) (c : γ) : Dt.D (T3.mk a b c) = PyData.tuple [Dt.D a, Dt.D b, Dt.D c] := (rfl)
theorem D_tp (l : List α) : Dt.D (Tp.mk l) = PyData.tuple (l.map Dt.D) := (rfl)
theorem D_list (l : List α) : Dt.D l = PyData.list (l.map Dt.D) := (rfl)
theorem D_fn_int : (Dt.D : Int → PyData) = .int := (rfl)
end
theorem zipD_map {α β : Type} (f : α → PyData) (g : β → PyData) : ∀ (xs : List α) (ys : List β), zipD (xs.map f) (ys.map g) = (xs.zip ys).map fun p => .tuple [f p.1, g p.2]
  | [], _ => by simp [zipD]
  | _ :: _, [] => by simp [zipD]
  | x :: xs, y :: ys => by
    show PyData.tuple [f x, g y] :: zipD (xs.map f) (ys.map g) = _
    rw [zipD_map f g xs ys]
    rfl
theorem enumD_map {α : Type} (f : α → PyData) : ∀ (n : Nat) (xs : List α), enumD n (xs.map f) = (xs.zipIdx n).map fun p => .tuple [.int (p.2 : Nat), f p.1]
  | _, [] => rfl
  | n, x :: xs => by
    show PyData.tuple [.int (n : Nat), f x] :: enumD (n + 1) (xs.map f) = _
    rw [enumD_map f (n + 1) xs]
    rfl
theorem lt_2 (a b c d : Int) : opLt (.d (.tuple [.int a, .int b])) (.d (.tuple [.int c, .int d])) = .ok (.d (.bool (decide (a < c ∨ (a = c ∧ b < d))))) := by
  show okB (HT.lexLt [a, b] [c, d]) = _
  simp only [HT.lexLt]
  by_cases h : a = c
  · subst h
    by_cases h2 : b = d
    · subst h2
      simp [okB]
    · simp [okB, h2]
  · simp [okB, h]
theorem bAll_p {α : Type} (p : α → Bool) (xs : List α) : bAll [.fr (xs.map fun x => .bool (p x))] = .ok (.d (.bool (xs.all p))) := by
  have e : (xs.map fun x => PyData.bool (p x)) = (xs.map p).map .bool := by rw [List.map_map]; rfl
  rw [e, bAll_f, List.all_map]
  rfl
theorem bAny_p {α : Type} (p : α → Bool) (xs : List α) : bAny [.fr (xs.map fun x => .bool (p x))] = .ok (.d (.bool (xs.any p))) := by
  have e : (xs.map fun x => PyData.bool (p x)) = (xs.map p).map .bool := by rw [List.map_map]; rfl
  rw [e, bAny_f, List.any_map]
  rfl
theorem bSum_p {α : Type} (p : α → Int) (xs : List α) : bSum2 [.fr (xs.map fun x => .int (p x))] = .ok (.d (.int (xs.map p).sum)) := by
  have e : (xs.map fun x => PyData.int (p x)) = (xs.map p).map .int := by rw [List.map_map]; rfl
  rw [e, bSum_f]
theorem all_T {α : Type} (xs : List α) : (xs.all fun _ => true) = true := by simp
theorem p64 : (2 : Int) ^ 64 = 18446744073709551616 := by decide
theorem mulK {i j : Int} (h1 : -18446744073709551616 < j) (h2 : j < 18446744073709551616) : opMulI i j = .ok (.d (.int (i * j))) :=
  mulI_r (by rw [p64]; exact h1) (by rw [p64]; exact h2)
theorem mulK' {i j : Int} (h1 : -18446744073709551616 < i) (h2 : i < 18446744073709551616) : opMulI i j = .ok (.d (.int (i * j))) :=
  mulI_l (by rw [p64]; exact h1) (by rw [p64]; exact h2)
theorem mid_of {i : Int} (h1 : -(10 ^ 100) < i) (h2 : i < 10 ^ 100) : i.natAbs < 2 ^ 500 := by
  have e : (2 : Nat) ^ 500 = 3273390607896141870013189696827599152216642046043064789483291368096133796404674554883270092325904157150886684127560071009217256545885393053328527589376 := by decide
  have e2 : (10 : Int) ^ 100 = 10000000000000000000000000000000000000000000000000000000000000000000000000000000000000000000000000000 := by decide
  rw [e]
  rw [e2] at h1 h2
  omega
theorem wipe_nil (env : List L) : wipeE env [] = env := (rfl)
theorem wipe_cons (env : List L) (v : Nat) (vs : List Nat) : wipeE env (v :: vs) = (wipeE env vs).set v .un := (rfl)
theorem cap_eq : cap = 100000 := rfl
theorem adj_of {α : Type} {R : α → α → Prop} : ∀ {xs : List α}, xs.Pairwise R → ∀ p ∈ xs.dropLast.zip (xs.drop 1), R p.1 p.2
  | [], _, p, h => by simp at h
  | [x], _, p, h => by simp at h
  | x :: y :: r, h, p, hp => by
    rw [List.pairwise_cons] at h
    have e : (x :: y :: r).dropLast.zip ((x :: y :: r).drop 1) = (x, y) :: (y :: r).dropLast.zip ((y :: r).drop 1) := rfl
    rw [e] at hp
    rcases List.mem_cons.mp hp with z | z
    · rw [z]
      exact h.1 y (List.mem_cons_self ..)
    · exact adj_of h.2 p z
end PD
/-! what a head tells, for the defs' readings -/
namespace PD
open PySem PySem.Spec PyProof.Rows L2
section
variable {S : Sys} {k : Nat}
theorem fns_nil : ∀ e ∈ ([] : List FnE), FnAt S k e.x e.n e.f := fun _ h => absurd h (by simp)
theorem fns_cons {x : Str} {n : Nat} {f : List PyData → M PyData} {l : List FnE} (h : FnAt S k x n f) (t : ∀ e ∈ l, FnAt S k e.x e.n e.f) : ∀ e ∈ (⟨x, n, f⟩ :: l : List FnE), FnAt S k e.x e.n e.f := fun e he => by
  rcases List.mem_cons.mp he with z | z
  · rw [z]; exact h
  · exact t e z
abbrev ConAt (S : Sys) (x : Str) (d : PyData) : Prop := ∃ v u, S.mg x = some u ∧ RelV v u ∧ ∀ G, DR S.K G v d
theorem con_nil : ∀ e ∈ ([] : List (Str × PyData)), ConAt S e.1 e.2 := fun _ h => absurd h (by simp)
theorem con_cons {x : Str} {d : PyData} {l : List (Str × PyData)} (h : ConAt S x d) (t : ∀ e ∈ l, ConAt S e.1 e.2) : ∀ e ∈ ((x, d) :: l), ConAt S e.1 e.2 := fun e he => by
  rcases List.mem_cons.mp he with z | z
  · rw [z]; exact h
  · exact t e z
theorem con_int {x : Str} {i : Int} (h : ∃ t, S.mg x = some (.int i t)) : ConAt S x (.int i) := by
  obtain ⟨t, h⟩ := h
  exact ⟨.int i, _, h, ⟨t, rfl⟩, fun G => .int i⟩
theorem exc_nil : ∀ x ∈ ([] : List Str), ExcAt S x := fun _ h => absurd h (by simp)
theorem exc_cons {x : Str} {l : List Str} (h : ExcAt S x) (t : ∀ x ∈ l, ExcAt S x) : ∀ y ∈ x :: l, ExcAt S y := fun e he => by
  rcases List.mem_cons.mp he with z | z
  · rw [z]; exact h
  · exact t e z
theorem blt_of {cc : CC} (h : ∀ x ∈ bltNames, S.mg x = none) : ∀ x ∈ bltNames, (∃ e ∈ cc.fns, e.x = x) ∨ S.mg x = none := fun x hx => .inr (h x hx)
end
/-- the system that a head tells of -/
abbrev sysOf (P : Program) (w : World) (K : Frg) (mg : Str → Option Value) (base : Heap) : Sys := ⟨P, w, K, mg, base, [], He.ga K⟩
theorem excAt_of {P : Program} {w : World} {K : Frg} {mg : Str → Option Value} {base : Heap} {x : Str} (g : mg x = some (.ref (He.ga K x))) (c : (He.Fa.exc x).ok K = true) : ExcAt (sysOf P w K mg base) x := by
  obtain ⟨c1, c2, c3, c4⟩ := He.exc_ok c
  exact ⟨g, c1, c2, c3, c4⟩
/-- what a law's def is asked -/
def spLaw (K : Frg) : Sp := fun vs H Q _ => ∃ (a : Addr) (ns : List Int), vs = [.ref a] ∧ L2.Only H ∧ SqL K H a (ns.map V.int) ∧ ns.length ≤ 63 ∧ ∀ H', Q (.bl true) H'
theorem spLaw_ok {P : Program} {w : World} {K : Frg} {mg : Str → Option Value} {base : Heap} {f : List PyData → M PyData} (hf : ∀ ns : List Int, ns.length ≤ 63 → f [scr ns] = .ok (.bool true)) (vs : List V) (H : Hp) (Q : VK) (E : XK) (h : spLaw K vs H Q E) :
    spD (sysOf P w K mg base) 1 f vs H Q E := by
  obtain ⟨a, ns, rfl, ho, hs, hl, q⟩ := h
  have sb : Sb H H := fun b o e => ⟨e, fun ps z => by
    rcases ho b with h1 | ⟨o', xs, h1⟩
    · rw [h1] at e; cases e
    · rw [h1] at e
      cases e
      cases z⟩
  refine ⟨H, [scr ns], rfl, sb, fun x hx => absurd hx (by simp), .cons (.scr hs) .nil, ?_⟩
  rw [hf ns hl]
  intro v G' H' gr r
  rw [DR.toBl r]
  exact q H'
/-- nothing gets out -/
theorem fnOk_calm {P : Program} {w : World} {K : Frg} {mg : Str → Option Value} {base : Heap} {k : Nat} {f : Addr} {fd : FuncData} {ps : List Str} {sp : Sp} (hE : ∀ vs H Q E E', sp vs H Q E → sp vs H Q E') (F : FnOk P w K mg base (L2.CX P w) k f fd ps sp) : FnOk P w K mg base L2.CX0 k f fd ps sp := by
  refine ⟨F.len, fun A outer s H args us vs Q E hr e0 hb hv h => codeAny_mono (F.run A outer s H args us vs Q (fun _ _ _ => False) hr e0 hb hv (hE _ _ _ _ _ h)) fun r s' hq => ?_⟩
  cases r with
  | ok fl => cases fl <;> exact hq
  | error e =>
    obtain ⟨_, _, _, _, _, _, _, _, _, _, _, _, z⟩ := hq
    exact z.elim
end PD
namespace L11
open PySem PySem.Spec PyProof.Rows L2 PD
def top (i : Nat) : Stmt := PySem.Challenge.pw_leaguechains_k11_whole_any_order.main.body.getD i (.Pass ⟨0, 0, 0, 0⟩)
def f_is_count : SF :=
  (sSeq (sRet [] (eAn (eUn (opIsi "int") (eVar 0)) (eAn (eNt (eUn (opIsi "bool") (eVar 0))) (eChain opLe opLe (eVar 1) (eVar 0) (eVar 2))))) sNil)
def s_is_count : List D → M D := semF 3 f_is_count
theorem e_is_count (x0 x1 x2 : PyData) : s_is_count [x0, x1, x2] = (f_is_count [.d x0, .d x1, .d x2]).bind semR := rfl
def c_is_count : CC := ⟨["thing", "low", "high"], [], []⟩
theorem r_is_count : compSs (compS c_is_count ⟨defScope (top 9), fun _ => true⟩ [] 200 (recN c_is_count 30) 30) (defBody (top 9)) = some f_is_count := by kernel_rfl
def q_is_left_0 : EF := eLc [2] (iEx (eSl (eVar 0) oNone (oSome (eC (.int 2))))) (gNm 2) tTrue (eCall s_is_count (aCons (eFz (eVar 2)) (aCons (eFz (eC (.int 0))) (aCons (eFz (eBin opSub (eVar 1) (eC (.int 1)))) aNil))))
def f_is_left : SF :=
  (sSeq (sIf [] (tOr (tNt (tVal (eUn (opIsi "tuple") (eVar 0)))) (tOr (tVal (eBin (opEq true) (eBi bLen (aCons (eVar 0) aNil)) (eC (.int 3)))) (tNt (tVal (eCall s_is_count (aCons (eFz (eBin opIx (eVar 0) (eC (.int 2)))) (aCons (eFz (eC (.int 1))) (aCons (eFz (eC (.int 9))) aNil))))))))
   (sSeq (sRet [] (eC (.bool false))) sNil)
   sNil)
  (sSeq (sRet [2] (eAn (eBi bAll (aCons q_is_left_0 aNil)) (eBin opLt (eBin opIx (eVar 0) (eC (.int 0))) (eBin opIx (eVar 0) (eC (.int 1)))))) sNil))
def s_is_left : List D → M D := semF 3 f_is_left
theorem e_is_left (x0 x1 : PyData) : s_is_left [x0, x1] = (f_is_left [.d x0, .d x1, .un]).bind semR := rfl
def c_is_left : CC := ⟨["thing", "sides", "side"], [⟨"is_count", 3, s_is_count⟩], [("MOST_LEFT", (.int 9))]⟩
theorem r_is_left : compSs (compS c_is_left ⟨defScope (top 10), fun _ => true⟩ [] 200 (recN c_is_left 30) 30) (defBody (top 10)) = some f_is_left := by kernel_rfl
def q_is_league_0 : EF := eLc [3] (iEx (eVar 0)) (gNm 3) tTrue (eUn (opIsi "tuple") (eVar 3))
def q_is_league_1 : EF := eLc [3] (iEx (eVar 1)) (gNm 3) tTrue (eCall s_is_count (aCons (eFz (eVar 3)) (aCons (eFz (eC (.int 0))) (aCons (eFz (eC (.int 60))) aNil))))
def q_is_league_2 : EF := eLc [3] (iEx (eVar 2)) (gNm 3) tTrue (eCall s_is_left (aCons (eFz (eVar 3)) (aCons (eFz (eBi bLen (aCons (eVar 1) aNil))) aNil)))
def q_is_league_3 : EF := eLc [3, 4] (iZp (eSl (eVar 2) oNone (oSome (eC (.int (-1))))) (eSl (eVar 2) (oSome (eC (.int 1))) oNone)) (gTp [(gNm 3), (gNm 4)]) tTrue (eBin opLt (eSl (eVar 3) oNone (oSome (eC (.int 2)))) (eSl (eVar 4) oNone (oSome (eC (.int 2)))))
def f_is_league : SF :=
  (sSeq (sIf [0] (tOr (tNt (tVal (eUn (opIsi "tuple") (eVar 0)))) (tOr (tVal (eBin (opEq true) (eBi bLen (aCons (eVar 0) aNil)) (eC (.int 2)))) (tNt (tVal (eBi bAll (aCons q_is_league_0 aNil))))))
   (sSeq (sRet [] (eC (.bool false))) sNil)
   sNil)
  (sSeq (sUnp [0] (gTp [(gNm 1), (gNm 2)]) (eVar 0))
  (sSeq (sIf [3, 1] (tOr (tNt (tVal (eChain opLe opLe (eC (.int 2)) (eBi bLen (aCons (eVar 1) aNil)) (eC (.int 6))))) (tNt (tVal (eBi bAll (aCons q_is_league_1 aNil)))))
   (sSeq (sRet [] (eC (.bool false))) sNil)
   sNil)
  (sSeq (sIf [3, 2] (tNt (tVal (eBi bAll (aCons q_is_league_2 aNil))))
   (sSeq (sRet [] (eC (.bool false))) sNil)
   sNil)
  (sSeq (sRet [] (eBi bAll (aCons q_is_league_3 aNil))) sNil)))))
def s_is_league : List D → M D := semF 5 f_is_league
theorem e_is_league (x0 : PyData) : s_is_league [x0] = (f_is_league [.d x0, .un, .un, .un, .un]).bind semR := rfl
def c_is_league : CC := ⟨["thing", "wins", "left", "one", "other"], [⟨"is_count", 3, s_is_count⟩, ⟨"is_left", 2, s_is_left⟩], [("MOST_SIDES", (.int 6)), ("MOST_WINS", (.int 60))]⟩
theorem r_is_league : compSs (compS c_is_league ⟨defScope (top 11), fun _ => true⟩ [] 200 (recN c_is_league 30) 30) (defBody (top 11)) = some f_is_league := by kernel_rfl
def f_need_league : SF :=
  (sSeq (sIf [0] (tNt (tVal (eCall s_is_league (aCons (eFz (eVar 0)) aNil))))
   (sSeq (sRaise "BadLeague") sNil)
   sNil) sNil)
def s_need_league : List D → M D := semF 1 f_need_league
theorem e_need_league (x0 : PyData) : s_need_league [x0] = (f_need_league [.d x0]).bind semR := rfl
def c_need_league : CC := ⟨["league"], [⟨"is_league", 1, s_is_league⟩], []⟩
theorem r_need_league : compSs (compS c_need_league ⟨defScope (top 12), fun _ => true⟩ ["BadLeague"] 200 (recN c_need_league 30) 30) (defBody (top 12)) = some f_need_league := by kernel_rfl
def f_need_side : SF :=
  (sSeq (sIf [1] (tNt (tVal (eCall s_is_count (aCons (eFz (eVar 1)) (aCons (eFz (eC (.int 0))) (aCons (eFz (eBin opSub (eBi bLen (aCons (eBin opIx (eVar 0) (eC (.int 0))) aNil)) (eC (.int 1)))) aNil))))))
   (sSeq (sRaise "BadSide") sNil)
   sNil) sNil)
def s_need_side : List D → M D := semF 2 f_need_side
theorem e_need_side (x0 x1 : PyData) : s_need_side [x0, x1] = (f_need_side [.d x0, .d x1]).bind semR := rfl
def c_need_side : CC := ⟨["league", "side"], [⟨"is_count", 3, s_is_count⟩], []⟩
theorem r_need_side : compSs (compS c_need_side ⟨defScope (top 13), fun _ => true⟩ ["BadSide"] 200 (recN c_need_side 30) 30) (defBody (top 13)) = some f_need_side := by kernel_rfl
def q_left_of_0 : EF := eLc [2, 3, 4] (iEx (eBin opIx (eVar 0) (eC (.int 1)))) (gTp [(gNm 2), (gNm 3), (gNm 4)]) (tVal (eBin (opIn false) (eVar 1) (eTup (aCons (eFz (eVar 2)) (aCons (eFz (eVar 3)) aNil))))) (eVar 4)
def f_left_of : SF :=
  (sSeq (sRet [4, 2, 3] (eBi bSum2 (aCons q_left_of_0 aNil))) sNil)
def s_left_of : List D → M D := semF 5 f_left_of
theorem e_left_of (x0 x1 : PyData) : s_left_of [x0, x1] = (f_left_of [.d x0, .d x1, .un, .un, .un]).bind semR := rfl
def c_left_of : CC := ⟨["league", "side", "one", "other", "many"], [], []⟩
theorem r_left_of : compSs (compS c_left_of ⟨defScope (top 14), fun _ => true⟩ [] 200 (recN c_left_of 30) 30) (defBody (top 14)) = some f_left_of := by kernel_rfl
def f_matches_left : SF :=
  (sSeq (sExp [0] (eCall s_need_league (aCons (eFz (eVar 0)) aNil)))
  (sSeq (sExp [0, 1] (eCall s_need_side (aCons (eFz (eVar 0)) (aCons (eFz (eVar 1)) aNil))))
  (sSeq (sRet [0, 1] (eCall s_left_of (aCons (eFz (eVar 0)) (aCons (eFz (eVar 1)) aNil)))) sNil)))
def s_matches_left : List D → M D := semF 2 f_matches_left
theorem e_matches_left (x0 x1 : PyData) : s_matches_left [x0, x1] = (f_matches_left [.d x0, .d x1]).bind semR := rfl
def c_matches_left : CC := ⟨["league", "side"], [⟨"need_league", 1, s_need_league⟩, ⟨"need_side", 2, s_need_side⟩, ⟨"left_of", 2, s_left_of⟩], []⟩
theorem r_matches_left : compSs (compS c_matches_left ⟨defScope (top 15), fun _ => true⟩ [] 200 (recN c_matches_left 30) 30) (defBody (top 15)) = some f_matches_left := by kernel_rfl
def q_places_of_0 : EF := eLc [2] (iEx (eVar 0)) (gNm 2) (tVal (eBin opGt (eVar 2) (eVar 1))) (eC (.int 1))
def q_places_of_1 : EF := eLc [1] (iEx (eVar 0)) (gNm 1) tTrue (eBin opAdd (eC (.int 1)) (eBi bLen (aCons q_places_of_0 aNil)))
def f_places_of : SF :=
  (sSeq (sRet [0, 0] q_places_of_1) sNil)
def s_places_of : List D → M D := semF 3 f_places_of
theorem e_places_of (x0 : PyData) : s_places_of [x0] = (f_places_of [.d x0, .un, .un]).bind semR := rfl
def c_places_of : CC := ⟨["wins", "own", "one"], [], []⟩
theorem r_places_of : compSs (compS c_places_of ⟨defScope (top 16), fun _ => true⟩ [] 200 (recN c_places_of 30) 30) (defBody (top 16)) = some f_places_of := by kernel_rfl
def f_places : SF :=
  (sSeq (sExp [0] (eCall s_need_league (aCons (eFz (eVar 0)) aNil)))
  (sSeq (sRet [] (eCall s_places_of (aCons (eFz (eBin opIx (eVar 0) (eC (.int 0)))) aNil))) sNil))
def s_places : List D → M D := semF 1 f_places
theorem e_places (x0 : PyData) : s_places [x0] = (f_places [.d x0]).bind semR := rfl
def c_places : CC := ⟨["league"], [⟨"need_league", 1, s_need_league⟩, ⟨"places_of", 1, s_places_of⟩], []⟩
theorem r_places : compSs (compS c_places ⟨defScope (top 17), fun _ => true⟩ [] 200 (recN c_places 30) 30) (defBody (top 17)) = some f_places := by kernel_rfl
def f_with_wins : SF :=
  (sSeq (sRet [] (eBin opAdd (eBin opAdd (eSl (eVar 0) oNone (oSome (eVar 1))) (eTup (aCons (eFz (eBin opAdd (eBin opIx (eVar 0) (eVar 1)) (eVar 2))) aNil))) (eSl (eVar 0) (oSome (eBin opAdd (eVar 1) (eC (.int 1)))) oNone))) sNil)
def s_with_wins : List D → M D := semF 3 f_with_wins
theorem e_with_wins (x0 x1 x2 : PyData) : s_with_wins [x0, x1, x2] = (f_with_wins [.d x0, .d x1, .d x2]).bind semR := rfl
def c_with_wins : CC := ⟨["wins", "side", "by"], [], []⟩
theorem r_with_wins : compSs (compS c_with_wins ⟨defScope (top 18), fun _ => true⟩ [] 200 (recN c_with_wins 30) 30) (defBody (top 18)) = some f_with_wins := by kernel_rfl
def q_played_0 : EF := eLc [5] (iEx (eBin opIx (eVar 0) (eC (.int 1)))) (gNm 5) tTrue (eSl (eVar 5) oNone (oSome (eC (.int 2))))
def b_played_1 : SF :=
  (sSeq (sAsg [] 6 (eBin opSub (eBin opIx (eVar 5) (eC (.int 2))) (eBi bInt (aCons (eBin (opEq false) (eSl (eVar 5) oNone (oSome (eC (.int 2)))) (eVar 3)) aNil))))
  (sSeq (sIf [] (tVal (eBin opGt (eVar 6) (eC (.int 0))))
   (sSeq (sApp [6] 4 (eBin opAdd (eSl (eVar 5) oNone (oSome (eC (.int 2)))) (eTup (aCons (eFz (eVar 6)) aNil)))) sNil)
   sNil) sNil))
def f_played : SF :=
  (sSeq (sExp [0] (eCall s_need_league (aCons (eFz (eVar 0)) aNil)))
  (sSeq (sExp [0, 1] (eCall s_need_side (aCons (eFz (eVar 0)) (aCons (eFz (eVar 1)) aNil))))
  (sSeq (sExp [0, 2] (eCall s_need_side (aCons (eFz (eVar 0)) (aCons (eFz (eVar 2)) aNil))))
  (sSeq (sAsg [] 3 (eTup (aCons (eFz (eBi bMin (aCons (eVar 1) (aCons (eVar 2) aNil)))) (aCons (eFz (eBi bMax (aCons (eVar 1) (aCons (eVar 2) aNil)))) aNil))))
  (sSeq (sIf [] (tOr (tVal (eBin (opIn true) (eVar 3) q_played_0)) (tVal (eBin (opEq false) (eBin opIx (eBin opIx (eVar 0) (eC (.int 0))) (eVar 1)) (eC (.int 60)))))
   (sSeq (sRaise "BadMatch") sNil)
   sNil)
  (sSeq (sAsg [] 4 (eLst aNil))
  (sSeq (sFor [] (iEx (eBin opIx (eVar 0) (eC (.int 1)))) (gNm 5) b_played_1)
  (sSeq (sRet [1] (eTup (aCons (eFz (eCall s_with_wins (aCons (eFz (eBin opIx (eVar 0) (eC (.int 0)))) (aCons (eFz (eVar 1)) (aCons (eFz (eC (.int 1))) aNil))))) (aCons (eFz (eBi bTuple (aCons (eVar 4) aNil))) aNil)))) sNil))))))))
def s_played : List D → M D := semF 7 f_played
theorem e_played (x0 x1 x2 : PyData) : s_played [x0, x1, x2] = (f_played [.d x0, .d x1, .d x2, .un, .un, .un, .un]).bind semR := rfl
def c_played : CC := ⟨["league", "winner", "loser", "pair", "left", "one", "many"], [⟨"need_league", 1, s_need_league⟩, ⟨"need_side", 2, s_need_side⟩, ⟨"with_wins", 3, s_with_wins⟩], [("MOST_WINS", (.int 60))]⟩
theorem r_played : compSs (compS c_played ⟨defScope (top 19), fun _ => true⟩ ["BadMatch"] 200 (recN c_played 30) 30) (defBody (top 19)) = some f_played := by kernel_rfl
def b_ended_of_0 : SF :=
  (sSeq (sAsg [2, 4, 3, 5] 2 (eCall s_with_wins (aCons (eFz (eCall s_with_wins (aCons (eFz (eVar 2)) (aCons (eFz (eVar 4)) (aCons (eFz (eVar 3)) aNil))))) (aCons (eFz (eVar 5)) (aCons (eFz (eBin opSub (eVar 6) (eVar 3))) aNil))))) sNil)
def f_ended_of : SF :=
  (sSeq (sAsg [] 2 (eBin opIx (eVar 0) (eC (.int 0))))
  (sSeq (sFor [1] (iZp (eBin opIx (eVar 0) (eC (.int 1))) (eVar 1)) (gTp [(gTp [(gNm 4), (gNm 5), (gNm 6)]), (gNm 3)]) b_ended_of_0)
  (sSeq (sRet [2] (eVar 2)) sNil)))
def s_ended_of : List D → M D := semF 7 f_ended_of
theorem e_ended_of (x0 x1 : PyData) : s_ended_of [x0, x1] = (f_ended_of [.d x0, .d x1, .un, .un, .un, .un, .un]).bind semR := rfl
def c_ended_of : CC := ⟨["league", "season", "wins", "first", "one", "other", "many"], [⟨"with_wins", 3, s_with_wins⟩], []⟩
theorem r_ended_of : compSs (compS c_ended_of ⟨defScope (top 20), fun _ => true⟩ [] 200 (recN c_ended_of 30) 30) (defBody (top 20)) = some f_ended_of := by kernel_rfl
def q_is_season_0 : EF := eLc [2, 3] (iZp (eBin opIx (eVar 0) (eC (.int 1))) (eVar 1)) (gTp [(gNm 2), (gNm 3)]) tTrue (eCall s_is_count (aCons (eFz (eVar 3)) (aCons (eFz (eC (.int 0))) (aCons (eFz (eBin opIx (eVar 2) (eC (.int 2)))) aNil))))
def f_is_season : SF :=
  (sSeq (sIf [] (tOr (tNt (tVal (eUn (opIsi "tuple") (eVar 1)))) (tVal (eBin (opEq true) (eBi bLen (aCons (eVar 1) aNil)) (eBi bLen (aCons (eBin opIx (eVar 0) (eC (.int 1))) aNil)))))
   (sSeq (sRet [] (eC (.bool false))) sNil)
   sNil)
  (sSeq (sRet [3, 1] (eBi bAll (aCons q_is_season_0 aNil))) sNil))
def s_is_season : List D → M D := semF 4 f_is_season
theorem e_is_season (x0 x1 : PyData) : s_is_season [x0, x1] = (f_is_season [.d x0, .d x1, .un, .un]).bind semR := rfl
def c_is_season : CC := ⟨["league", "thing", "one", "first"], [⟨"is_count", 3, s_is_count⟩], []⟩
theorem r_is_season : compSs (compS c_is_season ⟨defScope (top 21), fun _ => true⟩ [] 200 (recN c_is_season 30) 30) (defBody (top 21)) = some f_is_season := by kernel_rfl
def f_ended : SF :=
  (sSeq (sExp [0] (eCall s_need_league (aCons (eFz (eVar 0)) aNil)))
  (sSeq (sIf [0, 1] (tNt (tVal (eCall s_is_season (aCons (eFz (eVar 0)) (aCons (eFz (eVar 1)) aNil)))))
   (sSeq (sRaise "BadMatch") sNil)
   sNil)
  (sSeq (sRet [0, 1] (eCall s_ended_of (aCons (eFz (eVar 0)) (aCons (eFz (eVar 1)) aNil)))) sNil)))
def s_ended : List D → M D := semF 2 f_ended
theorem e_ended (x0 x1 : PyData) : s_ended [x0, x1] = (f_ended [.d x0, .d x1]).bind semR := rfl
def c_ended : CC := ⟨["league", "season"], [⟨"need_league", 1, s_need_league⟩, ⟨"ended_of", 2, s_ended_of⟩, ⟨"is_season", 2, s_is_season⟩], []⟩
theorem r_ended : compSs (compS c_ended ⟨defScope (top 22), fun _ => true⟩ ["BadMatch"] 200 (recN c_ended 30) 30) (defBody (top 22)) = some f_ended := by kernel_rfl
def f__law_cell : SF :=
  (sSeq (sIf [] (tVal (eBin (opEq false) (eVar 0) (eLst aNil)))
   (sSeq (sRet [] (eBin opMul (eVar 1) (eC (.int 7919)))) sNil)
   sNil)
  (sSeq (sRet [] (eBin opAdd (eBin opIx (eVar 0) (eBin opMod (eVar 1) (eBi bLen (aCons (eVar 0) aNil)))) (eBin opMul (eBin opDiv (eVar 1) (eBi bLen (aCons (eVar 0) aNil))) (eC (.int 104729))))) sNil))
def s__law_cell : List D → M D := semF 2 f__law_cell
theorem e__law_cell (x0 x1 : PyData) : s__law_cell [x0, x1] = (f__law_cell [.d x0, .d x1]).bind semR := rfl
def c__law_cell : CC := ⟨["_law_script", "_law_k"], [], []⟩
theorem r__law_cell : compSs (compS c__law_cell ⟨defScope (top 24), fun _ => true⟩ [] 200 (recN c__law_cell 30) 30) (defBody (top 24)) = some f__law_cell := by kernel_rfl
def f__law_drawn : SF :=
  (sSeq (sAsg [] 2 (eBin opMod (eBin opAdd (eBin opMul (eVar 0) (eC (.int 6364136223846793005))) (eBin opMul (eBin opAdd (eVar 1) (eC (.int 1))) (eC (.int 1442695040888963407)))) (eC (.int 340282366920938463463374607431768211507))))
  (sSeq (sAsg [] 2 (eBin opMod (eBin opMul (eVar 2) (eVar 2)) (eC (.int 340282366920938463463374607431768211297))))
  (sSeq (sAsg [] 2 (eBin opMul (eBin opMul (eBin opAdd (eBin opMod (eVar 2) (eC (.int 18446744073709551557))) (eC (.int 1))) (eBin opAdd (eBin opDiv (eVar 2) (eC (.int 18446744073709551557))) (eC (.int 1)))) (eVar 2)))
  (sSeq (sRet [] (eBin opMod (eVar 2) (eC (.int 340282366920938463463374607431768211507)))) sNil))))
def s__law_drawn : List D → M D := semF 3 f__law_drawn
theorem e__law_drawn (x0 x1 : PyData) : s__law_drawn [x0, x1] = (f__law_drawn [.d x0, .d x1, .un]).bind semR := rfl
def c__law_drawn : CC := ⟨["_law_cell_here", "_law_k", "_law_more"], [], []⟩
theorem r__law_drawn : compSs (compS c__law_drawn ⟨defScope (top 25), fun _ => true⟩ [] 200 (recN c__law_drawn 30) 30) (defBody (top 25)) = some f__law_drawn := by kernel_rfl
def q__law_league_0 : EF := eLc [8] (iR1 (eVar 2)) (gNm 8) tTrue (eBin opMod (eCall s__law_drawn (aCons (eFz (eVar 0)) (aCons (eFz (eVar 8)) aNil))) (eBin opIx (eLst (aCons (eFz (eC (.int 3))) (aCons (eFz (eC (.int 6))) (aCons (eFz (eC (.int 61))) aNil)))) (eBin opMod (eBin opDiv (eVar 0) (eC (.int 8))) (eC (.int 3)))))
def b__law_league_1 : SF :=
  (sSeq (sAsg [0] 7 (eCall s__law_drawn (aCons (eFz (eVar 0)) (aCons (eFz (eBin opAdd (eBin opAdd (eC (.int 10)) (eBin opMul (eC (.int 6)) (eVar 5))) (eVar 6))) aNil))))
  (sSeq (sIf [] (tVal (eBin opGt (eBin opMod (eVar 7) (eC (.int 3))) (eC (.int 0))))
   (sSeq (sApp [5, 6] 4 (eTup (aCons (eFz (eVar 5)) (aCons (eFz (eVar 6)) (aCons (eFz (eBin opAdd (eC (.int 1)) (eBin opMod (eBin opDiv (eVar 7) (eC (.int 8))) (eBin opIx (eLst (aCons (eFz (eC (.int 1))) (aCons (eFz (eC (.int 2))) (aCons (eFz (eC (.int 3))) (aCons (eFz (eC (.int 9))) aNil))))) (eBin opMod (eBin opDiv (eVar 7) (eC (.int 64))) (eC (.int 4))))))) aNil))))) sNil)
   sNil) sNil))
def b__law_league_2 : SF :=
  (sSeq (sFor [] (iR2 (eBin opAdd (eVar 5) (eC (.int 1))) (eVar 2)) (gNm 6) b__law_league_1) sNil)
def f__law_league : SF :=
  (sSeq (sAsg [] 2 (eBin opAdd (eC (.int 2)) (eBin opMod (eVar 0) (eBin opSub (eVar 1) (eC (.int 1))))))
  (sSeq (sAsg [0, 8] 3 (eBi bTuple (aCons q__law_league_0 aNil)))
  (sSeq (sAsg [] 4 (eLst aNil))
  (sSeq (sFor [] (iR1 (eVar 2)) (gNm 5) b__law_league_2)
  (sSeq (sRet [3] (eTup (aCons (eFz (eVar 3)) (aCons (eFz (eBi bTuple (aCons (eVar 4) aNil))) aNil)))) sNil)))))
def s__law_league : List D → M D := semF 9 f__law_league
theorem e__law_league (x0 x1 : PyData) : s__law_league [x0, x1] = (f__law_league [.d x0, .d x1, .un, .un, .un, .un, .un, .un, .un]).bind semR := rfl
def c__law_league : CC := ⟨["_law_more", "_law_most", "_law_sides", "_law_wins", "_law_left", "_law_one", "_law_other", "_law_here", "_law_j"], [⟨"_law_drawn", 2, s__law_drawn⟩], []⟩
theorem r__law_league : compSs (compS c__law_league ⟨defScope (top 26), fun _ => true⟩ [] 200 (recN c__law_league 30) 30) (defBody (top 26)) = some f__law_league := by kernel_rfl
def b__law_ended_0 : SF :=
  (sSeq (sSto [] 2 (eVar 4) (eBin opAdd (eBin opIx (eVar 2) (eVar 4)) (eVar 3)))
  (sSeq (sSto [] 2 (eVar 5) (eBin opSub (eBin opAdd (eBin opIx (eVar 2) (eVar 5)) (eVar 6)) (eVar 3))) sNil))
def f__law_ended : SF :=
  (sSeq (sAsg [] 2 (eBi bList (aCons (eBin opIx (eVar 0) (eC (.int 0))) aNil)))
  (sSeq (sFor [1] (iZp (eBin opIx (eVar 0) (eC (.int 1))) (eVar 1)) (gTp [(gTp [(gNm 4), (gNm 5), (gNm 6)]), (gNm 3)]) b__law_ended_0)
  (sSeq (sRet [] (eBi bTuple (aCons (eVar 2) aNil))) sNil)))
def s__law_ended : List D → M D := semF 7 f__law_ended
theorem e__law_ended (x0 x1 : PyData) : s__law_ended [x0, x1] = (f__law_ended [.d x0, .d x1, .un, .un, .un, .un, .un]).bind semR := rfl
def c__law_ended : CC := ⟨["_law_league_here", "_law_season", "_law_wins", "_law_first", "_law_one", "_law_other", "_law_many"], [], []⟩
theorem r__law_ended : compSs (compS c__law_ended ⟨defScope (top 27), fun _ => true⟩ [] 200 (recN c__law_ended 30) 30) (defBody (top 27)) = some f__law_ended := by kernel_rfl
def q__law_place_0 : EF := eLc [2] (iEx (eVar 0)) (gNm 2) (tVal (eBin opGt (eVar 2) (eBin opIx (eVar 0) (eVar 1)))) (eVar 2)
def f__law_place : SF :=
  (sSeq (sRet [2, 0] (eBin opAdd (eC (.int 1)) (eBi bLen (aCons q__law_place_0 aNil)))) sNil)
def s__law_place : List D → M D := semF 3 f__law_place
theorem e__law_place (x0 x1 : PyData) : s__law_place [x0, x1] = (f__law_place [.d x0, .d x1, .un]).bind semR := rfl
def c__law_place : CC := ⟨["_law_wins", "_law_side", "_law_one"], [], []⟩
theorem r__law_place : compSs (compS c__law_place ⟨defScope (top 28), fun _ => true⟩ [] 200 (recN c__law_place 30) 30) (defBody (top 28)) = some f__law_place := by kernel_rfl
def q__law_played_0 : EF := eLc [6, 7, 8] (iEx (eBin opIx (eVar 0) (eC (.int 1)))) (gTp [(gNm 6), (gNm 7), (gNm 8)]) tTrue (eTup (aCons (eFz (eVar 6)) (aCons (eFz (eVar 7)) (aCons (eFz (eBin opSub (eVar 8) (eBi bInt (aCons (eBin (opEq false) (eTup (aCons (eFz (eVar 6)) (aCons (eFz (eVar 7)) aNil))) (eVar 4)) aNil)))) aNil))))
def q__law_played_1 : EF := eLc [9] (iEx (eVar 5)) (gNm 9) (tVal (eBin opGt (eBin opIx (eVar 9) (eC (.int 2))) (eC (.int 0)))) (eVar 9)
def f__law_played : SF :=
  (sSeq (sAsg [] 3 (eBi bList (aCons (eBin opIx (eVar 0) (eC (.int 0))) aNil)))
  (sSeq (sSto [] 3 (eVar 1) (eBin opAdd (eBin opIx (eVar 3) (eVar 1)) (eC (.int 1))))
  (sSeq (sAsg [] 4 (eTup (aCons (eFz (eBi bMin (aCons (eVar 1) (aCons (eVar 2) aNil)))) (aCons (eFz (eBi bMax (aCons (eVar 1) (aCons (eVar 2) aNil)))) aNil))))
  (sSeq (sAsg [6, 7, 6, 7] 5 q__law_played_0)
  (sSeq (sRet [9, 5] (eTup (aCons (eFz (eBi bTuple (aCons (eVar 3) aNil))) (aCons (eFz (eBi bTuple (aCons q__law_played_1 aNil))) aNil)))) sNil)))))
def s__law_played : List D → M D := semF 10 f__law_played
theorem e__law_played (x0 x1 x2 : PyData) : s__law_played [x0, x1, x2] = (f__law_played [.d x0, .d x1, .d x2, .un, .un, .un, .un, .un, .un, .un]).bind semR := rfl
def c__law_played : CC := ⟨["_law_league_here", "_law_winner", "_law_loser", "_law_wins", "_law_pair", "_law_left", "_law_one", "_law_other", "_law_many", "_law_row"], [], []⟩
theorem r__law_played : compSs (compS c__law_played ⟨defScope (top 29), fun _ => true⟩ [] 200 (recN c__law_played 30) 30) (defBody (top 29)) = some f__law_played := by kernel_rfl
def q_law_0 : EF := eLc [11] (iEx (eBin opIx (eVar 3) (eC (.int 0)))) (gNm 11) tTrue (eBin opMod (eVar 11) (eC (.int 7)))
def b_law_1 : SF :=
  (sSeq (sUnp [] (gTp [(gNm 11), (gNm 12), (gNm 13)]) (eBin opIx (eBin opIx (eVar 3) (eC (.int 1))) (eVar 4)))
  (sSeq (sAsg [2] 8 (eBin opMod (eCall s__law_drawn (aCons (eFz (eVar 2)) (aCons (eFz (eBin opAdd (eC (.int 20)) (eVar 4))) aNil))) (eBin opAdd (eVar 13) (eC (.int 1)))))
  (sSeq (sAsg [8] 6 (eBin opAdd (eVar 6) (eTup (aCons (eFz (eVar 8)) aNil))))
  (sSeq (sAsg [11, 12, 12, 11] 7 (eBin opAdd (eBin opAdd (eVar 7) (eBin opMul (eLst (aCons (eFz (eTup (aCons (eFz (eVar 11)) (aCons (eFz (eVar 12)) aNil)))) aNil)) (eVar 8))) (eBin opMul (eLst (aCons (eFz (eTup (aCons (eFz (eVar 12)) (aCons (eFz (eVar 11)) aNil)))) aNil)) (eBin opSub (eVar 13) (eVar 8))))) sNil))))
def q_law_2 : EF := eLc [4, 15] (iEn (eVar 7)) (gTp [(gNm 4), (gNm 15)]) tTrue (eTup (aCons (eFz (eCall s__law_drawn (aCons (eFz (eVar 2)) (aCons (eFz (eBin opAdd (eBin opAdd (eBin opMul (eC (.int 50)) (eVar 5)) (eC (.int 40))) (eVar 4))) aNil)))) (aCons (eFz (eVar 15)) aNil)))
def b_law_3 : SF :=
  (sSeq (sAsg [10] 16 (eVar 10))
  (sSeq (sAsg [10] 10 (eCall s_played (aCons (eFz (eVar 10)) (aCons (eFz (eBin opIx (eVar 15) (eC (.int 0)))) (aCons (eFz (eBin opIx (eVar 15) (eC (.int 1)))) aNil)))))
  (sSeq (sIf [16] (tOr (tVal (eBin (opEq true) (eVar 10) (eCall s__law_played (aCons (eFz (eVar 16)) (aCons (eFz (eBin opIx (eVar 15) (eC (.int 0)))) (aCons (eFz (eBin opIx (eVar 15) (eC (.int 1)))) aNil)))))) (tVal (eBin (opEq true) (eBi bSum2 (aCons (eBin opIx (eVar 10) (eC (.int 0))) aNil)) (eBin opAdd (eBi bSum2 (aCons (eBin opIx (eVar 16) (eC (.int 0))) aNil)) (eC (.int 1))))))
   (sSeq (sRet [] (eC (.bool false))) sNil)
   sNil)
  (sSeq (sIf [10, 16] (tVal (eBin (opEq true) (eCall s_matches_left (aCons (eFz (eVar 10)) (aCons (eFz (eBin opIx (eVar 15) (eC (.int 0)))) aNil))) (eBin opSub (eCall s_matches_left (aCons (eFz (eVar 16)) (aCons (eFz (eBin opIx (eVar 15) (eC (.int 0)))) aNil))) (eC (.int 1)))))
   (sSeq (sRet [] (eC (.bool false))) sNil)
   sNil) sNil))))
def q_law_4 : EF := eLc [17] (iR1 (eBi bLen (aCons (eBin opIx (eVar 10) (eC (.int 0))) aNil))) (gNm 17) tTrue (eCall s__law_place (aCons (eFz (eBin opIx (eVar 10) (eC (.int 0)))) (aCons (eFz (eVar 17)) aNil)))
def b_law_5 : SF :=
  (sSeq (sAsg [2, 15, 7] 9 q_law_2)
  (sSeq (sAsg [3] 10 (eVar 3))
  (sSeq (sFor [] (iEx (eBi bSorted2 (aCons (eVar 9) aNil))) (gTp [(gNm 14), (gNm 15)]) b_law_3)
  (sSeq (sIf [3, 6, 3, 6] (tOr (tVal (eBin (opEq true) (eVar 10) (eTup (aCons (eFz (eCall s__law_ended (aCons (eFz (eVar 3)) (aCons (eFz (eVar 6)) aNil)))) (aCons (eFz (eTup aNil)) aNil))))) (tVal (eBin (opEq true) (eCall s_ended (aCons (eFz (eVar 3)) (aCons (eFz (eVar 6)) aNil))) (eBin opIx (eVar 10) (eC (.int 0))))))
   (sSeq (sRet [] (eC (.bool false))) sNil)
   sNil)
  (sSeq (sIf [10, 10, 17] (tOr (tVal (eBin (opEq true) (eBi bMin (aCons (eCall s_places (aCons (eFz (eVar 10)) aNil)) aNil)) (eC (.int 1)))) (tVal (eBin (opEq true) (eCall s_places (aCons (eFz (eVar 10)) aNil)) q_law_4)))
   (sSeq (sRet [] (eC (.bool false))) sNil)
   sNil) sNil)))))
def b_law_6 : SF :=
  (sSeq (sAsg [0, 1, 1] 2 (eCall s__law_drawn (aCons (eFz (eCall s__law_cell (aCons (eFz (eVar 0)) (aCons (eFz (eVar 1)) aNil)))) (aCons (eFz (eVar 1)) aNil))))
  (sSeq (sAsg [] 3 (eCall s__law_league (aCons (eFz (eBin opDiv (eVar 2) (eC (.int 8)))) (aCons (eFz (eC (.int 6))) aNil))))
  (sSeq (sAsg [] 3 (eTup (aCons (eFz (eBi bTuple (aCons q_law_0 aNil))) (aCons (eFz (eBin opIx (eVar 3) (eC (.int 1)))) aNil))))
  (sSeq (sPar ([] ++ []) 6 7 (eTup aNil) (eLst aNil))
  (sSeq (sFor [] (iR1 (eBi bLen (aCons (eBin opIx (eVar 3) (eC (.int 1))) aNil))) (gNm 4) b_law_1)
  (sSeq (sFor [] (iR1 (eC (.int 3))) (gNm 5) b_law_5) sNil))))))
def f_law : SF :=
  (sSeq (sFor [] (iR1 (eBi bMax (aCons (eC (.int 1)) (aCons (eBi bMin (aCons (eC (.int 4)) (aCons (eBi bLen (aCons (eVar 0) aNil)) aNil))) aNil)))) (gNm 1) b_law_6)
  (sSeq (sRet [] (eC (.bool true))) sNil))
def s_law : List D → M D := semF 18 f_law
theorem e_law (x0 : PyData) : s_law [x0] = (f_law [.d x0, .un, .un, .un, .un, .un, .un, .un, .un, .un, .un, .un, .un, .un, .un, .un, .un, .un]).bind semR := rfl
def c_law : CC := ⟨["_law_script", "_law_k", "_law_more", "_law_league_here", "_law_j", "_law_turn", "_law_season", "_law_matches", "_law_first", "_law_keys", "_law_now", "_law_one", "_law_other", "_law_many", "_law_key", "_law_match", "_law_before", "_law_side"], [⟨"matches_left", 2, s_matches_left⟩, ⟨"places", 1, s_places⟩, ⟨"played", 3, s_played⟩, ⟨"ended", 2, s_ended⟩, ⟨"_law_cell", 2, s__law_cell⟩, ⟨"_law_drawn", 2, s__law_drawn⟩, ⟨"_law_league", 2, s__law_league⟩, ⟨"_law_ended", 2, s__law_ended⟩, ⟨"_law_place", 2, s__law_place⟩, ⟨"_law_played", 3, s__law_played⟩], []⟩
theorem r_law : compSs (compS c_law ⟨defScope (top 30), fun _ => true⟩ [] 200 (recN c_law 30) 30) (defBody (top 30)) = some f_law := by kernel_rfl
end L11
namespace L11
open PySem PySem.Spec PyProof.Rows L2 PD
abbrev Row := T3 Nat Nat Int
abbrev lg (W : List Int) (R : List Row) : PyData := .tuple [.tuple (W.map .int), .tuple (R.map Dt.D)]
structure Ok (W : List Int) (R : List Row) : Prop where
  n2 : 2 ≤ W.length
  n6 : W.length ≤ 6
  w : ∀ x ∈ W, 0 ≤ x ∧ x ≤ 60
  r : ∀ x ∈ R, x.a < x.b ∧ x.b < W.length ∧ 1 ≤ x.c ∧ x.c ≤ 9
  s : R.Pairwise fun x y => x.a < y.a ∨ (x.a = y.a ∧ x.b < y.b)
  l : R.length ≤ 100
theorem e1 (i lo hi : Int) : s_is_count [.int i, .int lo, .int hi] = .ok (.bool (decide (lo ≤ i) && decide (i ≤ hi))) := by
  rw [e_is_count, f_is_count]
  simp only [ap_sSeq, ap_sNil, ap_sRet, ap_sRetN, ap_sCt, ap_sBk, ap_sRaise, ap_sExp, ap_sAsg, putL_d, putL_fr, ap_sIf, ap_sFor, ap_sUnp, un1_ok, ap_sPar, par2_nx, ap_sApp, ap_sExt, ext2_fr, ext2_d, ap_onOwn, on1_own, ap_sSto, sto2_int, sto3_some, fz1_d, fz1_un, fz1_own, ap_fzE_nil, ap_fzE, sq_nx, sq_rt, sq_bk, sq_ct, sq_ex, sq_stuck, okb, exb, stb, ap_eC, vr_d, vr_own, ap_eVar, ap_eBin, ap_eUn, ap_aNil, ap_aCons, ap_eFz, fzL_d, fzL_fr, fz_d, fz_fr, rd_d, rd_fr, rd_own, allD_nil, allD_cons, ap_eTup, ap_eLst, ap_eCall, ap_eBi, boolL_d, ap_tVal, ap_tAn, ap_tOr, ap_tNt, ap_tTrue, ap_eIf, ap_eAn, ap_eOr, ap_eNt, ap_eChain, ap_okB, ap_okI, add_i, sub_i, mul_i, lt_i, le_i, gt_i, ge_i, bLen_t, bLen_l, bLen_f, bLen_o, bLen_s, bInt_i, bInt_b, bList_t, bList_l, bList_f, bList_o, bTuple_t, bTuple_l, bTuple_f, bTuple_o, bMax_2, bMin_2, ix1_some, ix_t, ix_l, ix_f, ix_o, ix_s, at_0, at_1, at_2, ap_oNone, o1_i, ap_oSome, ap_eSl, sl_t, sl_l, sl_f, sl_o, itL_t, itL_l, ap_iEx, ap_iEn, ap_iZp, zipL_t, zipL_l, ap_iR1, ap_iR2, int1_i, ap_gNm, ap_gTp, ap_gAll_nil, ap_gAll, semR_nx, semR_rt, List.getElem?_cons_zero, List.getElem?_cons_succ, List.set_cons_zero, List.set_cons_succ, List.length_cons, List.length_nil, if_true, if_false, Bool.not_true, Bool.not_false, Bool.false_eq_true, List.append_nil, List.nil_append, List.cons_append, reduceIte, isi_ii, isi_ib, isi_bi, isi_bb, isi_tt, isi_tl, isi_ll, isi_lt, isi_ss, and_d, or_d, and_b, or_b, Bool.or_false, Bool.false_or, Bool.or_true, Bool.true_or, Bool.and_true, Bool.true_and, Bool.and_false, Bool.false_and, wipe_nil, wipe_cons, D_nat, D_int, Nat.reduceAdd, Nat.reduceLeDiff, lm_ok, add_t, add_of, add_ff, add_df, add_dd, add_od, add_fd, Int.cast_ofNat_Int, Int.natCast_zero, Int.natCast_one, Nat.zero_add, Nat.zero_le]
theorem e1t {i lo hi : Int} (h1 : lo ≤ i) (h2 : i ≤ hi) : s_is_count [.int i, .int lo, .int hi] = .ok (.bool true) := by
  rw [e1, decide_eq_true h1, decide_eq_true h2]
  rfl
theorem cut2 (x : Row) : cutD [.int (x.a : Int), .int (x.b : Int), .int x.c] none (some 2) = [.int (x.a : Int), .int (x.b : Int)] := cut_to _ 2
theorem Dr (x : Row) : Dt.D x = .tuple [.int (x.a : Int), .int (x.b : Int), .int x.c] := rfl
theorem e2 {x : Row} {n : Nat} (h1 : x.a < x.b) (h2 : x.b < n) (h3 : 1 ≤ x.c) (h4 : x.c ≤ 9) : s_is_left [Dt.D x, .int (n : Int)] = .ok (.bool true) := by
  have k3 : opEq true (.d (.int 3)) (.d (.int 3)) = .ok (.d (.bool false)) := ne_D (α := Int) (a := 3) (b := 3) (by decide) rfl rfl
  have k5 (l : L) : q_is_left_0 [L.d (.tuple [.int (x.a : Int), .int (x.b : Int), .int x.c]), L.d (.int (n : Int)), l] = .ok (.fr ([true, true].map .bool)) := by
    refine eLc_map (α := Nat) (xs := [x.a, x.b]) (fun x => .int (x : Int)) (fun _ => .bool true) (by simp only [ap_sSeq, ap_sNil, ap_sRet, ap_sRetN, ap_sCt, ap_sBk, ap_sRaise, ap_sExp, ap_sAsg, putL_d, putL_fr, ap_sIf, ap_sFor, ap_sUnp, un1_ok, ap_sPar, par2_nx, ap_sApp, ap_sExt, ext2_fr, ext2_d, ap_onOwn, on1_own, ap_sSto, sto2_int, sto3_some, fz1_d, fz1_un, fz1_own, ap_fzE_nil, ap_fzE, sq_nx, sq_rt, sq_bk, sq_ct, sq_ex, sq_stuck, okb, exb, stb, ap_eC, vr_d, vr_own, ap_eVar, ap_eBin, ap_eUn, ap_aNil, ap_aCons, ap_eFz, fzL_d, fzL_fr, fz_d, fz_fr, rd_d, rd_fr, rd_own, allD_nil, allD_cons, ap_eTup, ap_eLst, ap_eCall, ap_eBi, boolL_d, ap_tVal, ap_tAn, ap_tOr, ap_tNt, ap_tTrue, ap_eIf, ap_eAn, ap_eOr, ap_eNt, ap_eChain, ap_okB, ap_okI, add_i, sub_i, mul_i, lt_i, le_i, gt_i, ge_i, bLen_t, bLen_l, bLen_f, bLen_o, bLen_s, bInt_i, bInt_b, bList_t, bList_l, bList_f, bList_o, bTuple_t, bTuple_l, bTuple_f, bTuple_o, bMax_2, bMin_2, ix1_some, ix_t, ix_l, ix_f, ix_o, ix_s, at_0, at_1, at_2, ap_oNone, o1_i, ap_oSome, ap_eSl, sl_t, sl_l, sl_f, sl_o, itL_t, itL_l, ap_iEx, ap_iEn, ap_iZp, zipL_t, zipL_l, ap_iR1, ap_iR2, int1_i, ap_gNm, ap_gTp, ap_gAll_nil, ap_gAll, semR_nx, semR_rt, List.getElem?_cons_zero, List.getElem?_cons_succ, List.set_cons_zero, List.set_cons_succ, List.length_cons, List.length_nil, if_true, if_false, Bool.not_true, Bool.not_false, Bool.false_eq_true, List.append_nil, List.nil_append, List.cons_append, reduceIte, isi_ii, isi_ib, isi_bi, isi_bb, isi_tt, isi_tl, isi_ll, isi_lt, isi_ss, and_d, or_d, and_b, or_b, Bool.or_false, Bool.false_or, Bool.or_true, Bool.true_or, Bool.and_true, Bool.true_and, Bool.and_false, Bool.false_and, wipe_nil, wipe_cons, D_nat, D_int, Nat.reduceAdd, Nat.reduceLeDiff, lm_ok, add_t, add_of, add_ff, add_df, add_dd, add_od, add_fd, Int.cast_ofNat_Int, Int.natCast_zero, Int.natCast_one, Nat.zero_add, Nat.zero_le, cut2]; rfl) rfl (by simp [cap]) fun y hx => ⟨_, rfl, ?_⟩
    have hx' : y = x.a ∨ y = x.b := by simpa using hx
    simp only [ap_sSeq, ap_sNil, ap_sRet, ap_sRetN, ap_sCt, ap_sBk, ap_sRaise, ap_sExp, ap_sAsg, putL_d, putL_fr, ap_sIf, ap_sFor, ap_sUnp, un1_ok, ap_sPar, par2_nx, ap_sApp, ap_sExt, ext2_fr, ext2_d, ap_onOwn, on1_own, ap_sSto, sto2_int, sto3_some, fz1_d, fz1_un, fz1_own, ap_fzE_nil, ap_fzE, sq_nx, sq_rt, sq_bk, sq_ct, sq_ex, sq_stuck, okb, exb, stb, ap_eC, vr_d, vr_own, ap_eVar, ap_eBin, ap_eUn, ap_aNil, ap_aCons, ap_eFz, fzL_d, fzL_fr, fz_d, fz_fr, rd_d, rd_fr, rd_own, allD_nil, allD_cons, ap_eTup, ap_eLst, ap_eCall, ap_eBi, boolL_d, ap_tVal, ap_tAn, ap_tOr, ap_tNt, ap_tTrue, ap_eIf, ap_eAn, ap_eOr, ap_eNt, ap_eChain, ap_okB, ap_okI, add_i, sub_i, mul_i, lt_i, le_i, gt_i, ge_i, bLen_t, bLen_l, bLen_f, bLen_o, bLen_s, bInt_i, bInt_b, bList_t, bList_l, bList_f, bList_o, bTuple_t, bTuple_l, bTuple_f, bTuple_o, bMax_2, bMin_2, ix1_some, ix_t, ix_l, ix_f, ix_o, ix_s, at_0, at_1, at_2, ap_oNone, o1_i, ap_oSome, ap_eSl, sl_t, sl_l, sl_f, sl_o, itL_t, itL_l, ap_iEx, ap_iEn, ap_iZp, zipL_t, zipL_l, ap_iR1, ap_iR2, int1_i, ap_gNm, ap_gTp, ap_gAll_nil, ap_gAll, semR_nx, semR_rt, List.getElem?_cons_zero, List.getElem?_cons_succ, List.set_cons_zero, List.set_cons_succ, List.length_cons, List.length_nil, if_true, if_false, Bool.not_true, Bool.not_false, Bool.false_eq_true, List.append_nil, List.nil_append, List.cons_append, reduceIte, isi_ii, isi_ib, isi_bi, isi_bb, isi_tt, isi_tl, isi_ll, isi_lt, isi_ss, and_d, or_d, and_b, or_b, Bool.or_false, Bool.false_or, Bool.or_true, Bool.true_or, Bool.and_true, Bool.true_and, Bool.and_false, Bool.false_and, wipe_nil, wipe_cons, D_nat, D_int, Nat.reduceAdd, Nat.reduceLeDiff, lm_ok, add_t, add_of, add_ff, add_df, add_dd, add_od, add_fd, Int.cast_ofNat_Int, Int.natCast_zero, Int.natCast_one, Nat.zero_add, Nat.zero_le]
    rw [e1t (by omega) (by omega)]
    rfl
  rw [e_is_left, f_is_left, Dr]
  simp only [ap_sSeq, ap_sNil, ap_sRet, ap_sRetN, ap_sCt, ap_sBk, ap_sRaise, ap_sExp, ap_sAsg, putL_d, putL_fr, ap_sIf, ap_sFor, ap_sUnp, un1_ok, ap_sPar, par2_nx, ap_sApp, ap_sExt, ext2_fr, ext2_d, ap_onOwn, on1_own, ap_sSto, sto2_int, sto3_some, fz1_d, fz1_un, fz1_own, ap_fzE_nil, ap_fzE, sq_nx, sq_rt, sq_bk, sq_ct, sq_ex, sq_stuck, okb, exb, stb, ap_eC, vr_d, vr_own, ap_eVar, ap_eBin, ap_eUn, ap_aNil, ap_aCons, ap_eFz, fzL_d, fzL_fr, fz_d, fz_fr, rd_d, rd_fr, rd_own, allD_nil, allD_cons, ap_eTup, ap_eLst, ap_eCall, ap_eBi, boolL_d, ap_tVal, ap_tAn, ap_tOr, ap_tNt, ap_tTrue, ap_eIf, ap_eAn, ap_eOr, ap_eNt, ap_eChain, ap_okB, ap_okI, add_i, sub_i, mul_i, lt_i, le_i, gt_i, ge_i, bLen_t, bLen_l, bLen_f, bLen_o, bLen_s, bInt_i, bInt_b, bList_t, bList_l, bList_f, bList_o, bTuple_t, bTuple_l, bTuple_f, bTuple_o, bMax_2, bMin_2, ix1_some, ix_t, ix_l, ix_f, ix_o, ix_s, at_0, at_1, at_2, ap_oNone, o1_i, ap_oSome, ap_eSl, sl_t, sl_l, sl_f, sl_o, itL_t, itL_l, ap_iEx, ap_iEn, ap_iZp, zipL_t, zipL_l, ap_iR1, ap_iR2, int1_i, ap_gNm, ap_gTp, ap_gAll_nil, ap_gAll, semR_nx, semR_rt, List.getElem?_cons_zero, List.getElem?_cons_succ, List.set_cons_zero, List.set_cons_succ, List.length_cons, List.length_nil, if_true, if_false, Bool.not_true, Bool.not_false, Bool.false_eq_true, List.append_nil, List.nil_append, List.cons_append, reduceIte, isi_ii, isi_ib, isi_bi, isi_bb, isi_tt, isi_tl, isi_ll, isi_lt, isi_ss, and_d, or_d, and_b, or_b, Bool.or_false, Bool.false_or, Bool.or_true, Bool.true_or, Bool.and_true, Bool.true_and, Bool.and_false, Bool.false_and, wipe_nil, wipe_cons, D_nat, D_int, Nat.reduceAdd, Nat.reduceLeDiff, lm_ok, add_t, add_of, add_ff, add_df, add_dd, add_od, add_fd, Int.cast_ofNat_Int, Int.natCast_zero, Int.natCast_one, Nat.zero_add, Nat.zero_le, e1t h3 h4, k3, k5, bAll_f]
  rw [decide_eq_true (show ((x.a : Int) < (x.b : Int)) by omega)]
  rfl
section
variable {W : List Int} {R : List Row}
theorem e3 (h : Ok W R) : s_is_league [lg W R] = .ok (.bool true) := by
  have k0 (l1 l2 l3 l4 : L) : q_is_league_0 [L.d (lg W R), l1, l2, l3, l4] = .ok (.fr ([PyData.tuple (W.map .int), PyData.tuple (R.map Dt.D)].map fun _ => PyData.bool true)) := by
    refine eLc_map (α := PyData) (xs := [.tuple (W.map .int), .tuple (R.map Dt.D)]) (fun x => x) (fun _ => .bool true) rfl rfl (by simp [cap]) fun y hx => ⟨_, rfl, ?_⟩
    have hx' : y = .tuple (W.map .int) ∨ y = .tuple (R.map Dt.D) := by simpa using hx
    rcases hx' with e | e <;> subst e <;> rfl
  have k1 (l0 l2 l3 l4 : L) : q_is_league_1 [l0, L.d (.tuple (W.map .int)), l2, l3, l4] = .ok (.fr (W.map fun _ => .bool true)) := by
    refine eLc_map (α := Int) (xs := W) .int (fun _ => .bool true) rfl rfl (by have := h.n6; simp only [cap]; omega) fun y hx => ⟨_, rfl, ?_⟩
    obtain ⟨a, b⟩ := h.w y hx
    simp only [ap_sSeq, ap_sNil, ap_sRet, ap_sRetN, ap_sCt, ap_sBk, ap_sRaise, ap_sExp, ap_sAsg, putL_d, putL_fr, ap_sIf, ap_sFor, ap_sUnp, un1_ok, ap_sPar, par2_nx, ap_sApp, ap_sExt, ext2_fr, ext2_d, ap_onOwn, on1_own, ap_sSto, sto2_int, sto3_some, fz1_d, fz1_un, fz1_own, ap_fzE_nil, ap_fzE, sq_nx, sq_rt, sq_bk, sq_ct, sq_ex, sq_stuck, okb, exb, stb, ap_eC, vr_d, vr_own, ap_eVar, ap_eBin, ap_eUn, ap_aNil, ap_aCons, ap_eFz, fzL_d, fzL_fr, fz_d, fz_fr, rd_d, rd_fr, rd_own, allD_nil, allD_cons, ap_eTup, ap_eLst, ap_eCall, ap_eBi, boolL_d, ap_tVal, ap_tAn, ap_tOr, ap_tNt, ap_tTrue, ap_eIf, ap_eAn, ap_eOr, ap_eNt, ap_eChain, ap_okB, ap_okI, add_i, sub_i, mul_i, lt_i, le_i, gt_i, ge_i, bLen_t, bLen_l, bLen_f, bLen_o, bLen_s, bInt_i, bInt_b, bList_t, bList_l, bList_f, bList_o, bTuple_t, bTuple_l, bTuple_f, bTuple_o, bMax_2, bMin_2, ix1_some, ix_t, ix_l, ix_f, ix_o, ix_s, at_0, at_1, at_2, ap_oNone, o1_i, ap_oSome, ap_eSl, sl_t, sl_l, sl_f, sl_o, itL_t, itL_l, ap_iEx, ap_iEn, ap_iZp, zipL_t, zipL_l, ap_iR1, ap_iR2, int1_i, ap_gNm, ap_gTp, ap_gAll_nil, ap_gAll, semR_nx, semR_rt, List.getElem?_cons_zero, List.getElem?_cons_succ, List.set_cons_zero, List.set_cons_succ, List.length_cons, List.length_nil, if_true, if_false, Bool.not_true, Bool.not_false, Bool.false_eq_true, List.append_nil, List.nil_append, List.cons_append, reduceIte, isi_ii, isi_ib, isi_bi, isi_bb, isi_tt, isi_tl, isi_ll, isi_lt, isi_ss, and_d, or_d, and_b, or_b, Bool.or_false, Bool.false_or, Bool.or_true, Bool.true_or, Bool.and_true, Bool.true_and, Bool.and_false, Bool.false_and, wipe_nil, wipe_cons, D_nat, D_int, Nat.reduceAdd, Nat.reduceLeDiff, lm_ok, add_t, add_of, add_ff, add_df, add_dd, add_od, add_fd, Int.cast_ofNat_Int, Int.natCast_zero, Int.natCast_one, Nat.zero_add, Nat.zero_le, e1t a b]
  have k2 (l0 l3 l4 : L) : q_is_league_2 [l0, L.d (.tuple (W.map .int)), L.d (.tuple (R.map Dt.D)), l3, l4] = .ok (.fr (R.map fun _ => .bool true)) := by
    refine eLc_map (α := Row) (xs := R) Dt.D (fun _ => .bool true) rfl rfl (by have := h.l; simp only [cap]; omega) fun y hx => ⟨_, rfl, ?_⟩
    obtain ⟨a, b, c, d⟩ := h.r y hx
    simp only [ap_sSeq, ap_sNil, ap_sRet, ap_sRetN, ap_sCt, ap_sBk, ap_sRaise, ap_sExp, ap_sAsg, putL_d, putL_fr, ap_sIf, ap_sFor, ap_sUnp, un1_ok, ap_sPar, par2_nx, ap_sApp, ap_sExt, ext2_fr, ext2_d, ap_onOwn, on1_own, ap_sSto, sto2_int, sto3_some, fz1_d, fz1_un, fz1_own, ap_fzE_nil, ap_fzE, sq_nx, sq_rt, sq_bk, sq_ct, sq_ex, sq_stuck, okb, exb, stb, ap_eC, vr_d, vr_own, ap_eVar, ap_eBin, ap_eUn, ap_aNil, ap_aCons, ap_eFz, fzL_d, fzL_fr, fz_d, fz_fr, rd_d, rd_fr, rd_own, allD_nil, allD_cons, ap_eTup, ap_eLst, ap_eCall, ap_eBi, boolL_d, ap_tVal, ap_tAn, ap_tOr, ap_tNt, ap_tTrue, ap_eIf, ap_eAn, ap_eOr, ap_eNt, ap_eChain, ap_okB, ap_okI, add_i, sub_i, mul_i, lt_i, le_i, gt_i, ge_i, bLen_t, bLen_l, bLen_f, bLen_o, bLen_s, bInt_i, bInt_b, bList_t, bList_l, bList_f, bList_o, bTuple_t, bTuple_l, bTuple_f, bTuple_o, bMax_2, bMin_2, ix1_some, ix_t, ix_l, ix_f, ix_o, ix_s, at_0, at_1, at_2, ap_oNone, o1_i, ap_oSome, ap_eSl, sl_t, sl_l, sl_f, sl_o, itL_t, itL_l, ap_iEx, ap_iEn, ap_iZp, zipL_t, zipL_l, ap_iR1, ap_iR2, int1_i, ap_gNm, ap_gTp, ap_gAll_nil, ap_gAll, semR_nx, semR_rt, List.getElem?_cons_zero, List.getElem?_cons_succ, List.set_cons_zero, List.set_cons_succ, List.length_cons, List.length_nil, if_true, if_false, Bool.not_true, Bool.not_false, Bool.false_eq_true, List.append_nil, List.nil_append, List.cons_append, reduceIte, isi_ii, isi_ib, isi_bi, isi_bb, isi_tt, isi_tl, isi_ll, isi_lt, isi_ss, and_d, or_d, and_b, or_b, Bool.or_false, Bool.false_or, Bool.or_true, Bool.true_or, Bool.and_true, Bool.true_and, Bool.and_false, Bool.false_and, wipe_nil, wipe_cons, D_nat, D_int, Nat.reduceAdd, Nat.reduceLeDiff, lm_ok, add_t, add_of, add_ff, add_df, add_dd, add_od, add_fd, Int.cast_ofNat_Int, Int.natCast_zero, Int.natCast_one, Nat.zero_add, Nat.zero_le, List.length_map, e2 a b c d]
  have k3 (l0 l1 l3 l4 : L) : q_is_league_3 [l0, l1, L.d (.tuple (R.map Dt.D)), l3, l4] = .ok (.fr ((R.dropLast.zip (R.drop 1)).map fun _ => .bool true)) := by
    refine eLc_map (α := Row × Row) (xs := R.dropLast.zip (R.drop 1)) (fun p => .tuple [Dt.D p.1, Dt.D p.2]) (fun _ => .bool true) ?_ (zipD_map Dt.D Dt.D _ _) (by have := h.l; simp only [cap, List.length_zip]; simp; omega) fun y hx => ⟨_, rfl, ?_⟩
    · have c1 : cutD (R.map Dt.D) (some 1) none = (R.map Dt.D).drop 1 := cut_from _ 1
      simp only [ap_sSeq, ap_sNil, ap_sRet, ap_sRetN, ap_sCt, ap_sBk, ap_sRaise, ap_sExp, ap_sAsg, putL_d, putL_fr, ap_sIf, ap_sFor, ap_sUnp, un1_ok, ap_sPar, par2_nx, ap_sApp, ap_sExt, ext2_fr, ext2_d, ap_onOwn, on1_own, ap_sSto, sto2_int, sto3_some, fz1_d, fz1_un, fz1_own, ap_fzE_nil, ap_fzE, sq_nx, sq_rt, sq_bk, sq_ct, sq_ex, sq_stuck, okb, exb, stb, ap_eC, vr_d, vr_own, ap_eVar, ap_eBin, ap_eUn, ap_aNil, ap_aCons, ap_eFz, fzL_d, fzL_fr, fz_d, fz_fr, rd_d, rd_fr, rd_own, allD_nil, allD_cons, ap_eTup, ap_eLst, ap_eCall, ap_eBi, boolL_d, ap_tVal, ap_tAn, ap_tOr, ap_tNt, ap_tTrue, ap_eIf, ap_eAn, ap_eOr, ap_eNt, ap_eChain, ap_okB, ap_okI, add_i, sub_i, mul_i, lt_i, le_i, gt_i, ge_i, bLen_t, bLen_l, bLen_f, bLen_o, bLen_s, bInt_i, bInt_b, bList_t, bList_l, bList_f, bList_o, bTuple_t, bTuple_l, bTuple_f, bTuple_o, bMax_2, bMin_2, ix1_some, ix_t, ix_l, ix_f, ix_o, ix_s, at_0, at_1, at_2, ap_oNone, o1_i, ap_oSome, ap_eSl, sl_t, sl_l, sl_f, sl_o, itL_t, itL_l, ap_iEx, ap_iEn, ap_iZp, zipL_t, zipL_l, ap_iR1, ap_iR2, int1_i, ap_gNm, ap_gTp, ap_gAll_nil, ap_gAll, semR_nx, semR_rt, List.getElem?_cons_zero, List.getElem?_cons_succ, List.set_cons_zero, List.set_cons_succ, List.length_cons, List.length_nil, if_true, if_false, Bool.not_true, Bool.not_false, Bool.false_eq_true, List.append_nil, List.nil_append, List.cons_append, reduceIte, isi_ii, isi_ib, isi_bi, isi_bb, isi_tt, isi_tl, isi_ll, isi_lt, isi_ss, and_d, or_d, and_b, or_b, Bool.or_false, Bool.false_or, Bool.or_true, Bool.true_or, Bool.and_true, Bool.true_and, Bool.and_false, Bool.false_and, wipe_nil, wipe_cons, D_nat, D_int, Nat.reduceAdd, Nat.reduceLeDiff, lm_ok, add_t, add_of, add_ff, add_df, add_dd, add_od, add_fd, Int.cast_ofNat_Int, Int.natCast_zero, Int.natCast_one, Nat.zero_add, Nat.zero_le, cut_init, c1]
      rw [List.map_dropLast, List.map_drop]
    · have := adj_of h.s y hx
      simp only [ap_sSeq, ap_sNil, ap_sRet, ap_sRetN, ap_sCt, ap_sBk, ap_sRaise, ap_sExp, ap_sAsg, putL_d, putL_fr, ap_sIf, ap_sFor, ap_sUnp, un1_ok, ap_sPar, par2_nx, ap_sApp, ap_sExt, ext2_fr, ext2_d, ap_onOwn, on1_own, ap_sSto, sto2_int, sto3_some, fz1_d, fz1_un, fz1_own, ap_fzE_nil, ap_fzE, sq_nx, sq_rt, sq_bk, sq_ct, sq_ex, sq_stuck, okb, exb, stb, ap_eC, vr_d, vr_own, ap_eVar, ap_eBin, ap_eUn, ap_aNil, ap_aCons, ap_eFz, fzL_d, fzL_fr, fz_d, fz_fr, rd_d, rd_fr, rd_own, allD_nil, allD_cons, ap_eTup, ap_eLst, ap_eCall, ap_eBi, boolL_d, ap_tVal, ap_tAn, ap_tOr, ap_tNt, ap_tTrue, ap_eIf, ap_eAn, ap_eOr, ap_eNt, ap_eChain, ap_okB, ap_okI, add_i, sub_i, mul_i, lt_i, le_i, gt_i, ge_i, bLen_t, bLen_l, bLen_f, bLen_o, bLen_s, bInt_i, bInt_b, bList_t, bList_l, bList_f, bList_o, bTuple_t, bTuple_l, bTuple_f, bTuple_o, bMax_2, bMin_2, ix1_some, ix_t, ix_l, ix_f, ix_o, ix_s, at_0, at_1, at_2, ap_oNone, o1_i, ap_oSome, ap_eSl, sl_t, sl_l, sl_f, sl_o, itL_t, itL_l, ap_iEx, ap_iEn, ap_iZp, zipL_t, zipL_l, ap_iR1, ap_iR2, int1_i, ap_gNm, ap_gTp, ap_gAll_nil, ap_gAll, semR_nx, semR_rt, List.getElem?_cons_zero, List.getElem?_cons_succ, List.set_cons_zero, List.set_cons_succ, List.length_cons, List.length_nil, if_true, if_false, Bool.not_true, Bool.not_false, Bool.false_eq_true, List.append_nil, List.nil_append, List.cons_append, reduceIte, isi_ii, isi_ib, isi_bi, isi_bb, isi_tt, isi_tl, isi_ll, isi_lt, isi_ss, and_d, or_d, and_b, or_b, Bool.or_false, Bool.false_or, Bool.or_true, Bool.true_or, Bool.and_true, Bool.true_and, Bool.and_false, Bool.false_and, wipe_nil, wipe_cons, D_nat, D_int, Nat.reduceAdd, Nat.reduceLeDiff, lm_ok, add_t, add_of, add_ff, add_df, add_dd, add_od, add_fd, Int.cast_ofNat_Int, Int.natCast_zero, Int.natCast_one, Nat.zero_add, Nat.zero_le, Dr, cut2, lt_2]
      rw [decide_eq_true (by omega)]
  have z2 : opEq true (.d (.int 2)) (.d (.int 2)) = .ok (.d (.bool false)) := ne_D (α := Int) (a := 2) (b := 2) (by decide) rfl rfl
  rw [e_is_league, f_is_league]
  simp only [ap_sSeq, ap_sNil, ap_sRet, ap_sRetN, ap_sCt, ap_sBk, ap_sRaise, ap_sExp, ap_sAsg, putL_d, putL_fr, ap_sIf, ap_sFor, ap_sUnp, un1_ok, ap_sPar, par2_nx, ap_sApp, ap_sExt, ext2_fr, ext2_d, ap_onOwn, on1_own, ap_sSto, sto2_int, sto3_some, fz1_d, fz1_un, fz1_own, ap_fzE_nil, ap_fzE, sq_nx, sq_rt, sq_bk, sq_ct, sq_ex, sq_stuck, okb, exb, stb, ap_eC, vr_d, vr_own, ap_eVar, ap_eBin, ap_eUn, ap_aNil, ap_aCons, ap_eFz, fzL_d, fzL_fr, fz_d, fz_fr, rd_d, rd_fr, rd_own, allD_nil, allD_cons, ap_eTup, ap_eLst, ap_eCall, ap_eBi, boolL_d, ap_tVal, ap_tAn, ap_tOr, ap_tNt, ap_tTrue, ap_eIf, ap_eAn, ap_eOr, ap_eNt, ap_eChain, ap_okB, ap_okI, add_i, sub_i, mul_i, lt_i, le_i, gt_i, ge_i, bLen_t, bLen_l, bLen_f, bLen_o, bLen_s, bInt_i, bInt_b, bList_t, bList_l, bList_f, bList_o, bTuple_t, bTuple_l, bTuple_f, bTuple_o, bMax_2, bMin_2, ix1_some, ix_t, ix_l, ix_f, ix_o, ix_s, at_0, at_1, at_2, ap_oNone, o1_i, ap_oSome, ap_eSl, sl_t, sl_l, sl_f, sl_o, itL_t, itL_l, ap_iEx, ap_iEn, ap_iZp, zipL_t, zipL_l, ap_iR1, ap_iR2, int1_i, ap_gNm, ap_gTp, ap_gAll_nil, ap_gAll, semR_nx, semR_rt, List.getElem?_cons_zero, List.getElem?_cons_succ, List.set_cons_zero, List.set_cons_succ, List.length_cons, List.length_nil, if_true, if_false, Bool.not_true, Bool.not_false, Bool.false_eq_true, List.append_nil, List.nil_append, List.cons_append, reduceIte, isi_ii, isi_ib, isi_bi, isi_bb, isi_tt, isi_tl, isi_ll, isi_lt, isi_ss, and_d, or_d, and_b, or_b, Bool.or_false, Bool.false_or, Bool.or_true, Bool.true_or, Bool.and_true, Bool.true_and, Bool.and_false, Bool.false_and, wipe_nil, wipe_cons, D_nat, D_int, Nat.reduceAdd, Nat.reduceLeDiff, lm_ok, add_t, add_of, add_ff, add_df, add_dd, add_od, add_fd, Int.cast_ofNat_Int, Int.natCast_zero, Int.natCast_one, Nat.zero_add, Nat.zero_le, z2, k0, k1, k2, k3, bAll_p, all_T, List.length_map, decide_eq_true (show (2 : Int) ≤ (W.length : Int) by have := h.n2; omega), decide_eq_true (show (W.length : Int) ≤ 6 by have := h.n6; omega)]
theorem e4 (h : Ok W R) : s_need_league [lg W R] = .ok .none := by
  rw [e_need_league, f_need_league]
  simp only [ap_sSeq, ap_sNil, ap_sRet, ap_sRetN, ap_sCt, ap_sBk, ap_sRaise, ap_sExp, ap_sAsg, putL_d, putL_fr, ap_sIf, ap_sFor, ap_sUnp, un1_ok, ap_sPar, par2_nx, ap_sApp, ap_sExt, ext2_fr, ext2_d, ap_onOwn, on1_own, ap_sSto, sto2_int, sto3_some, fz1_d, fz1_un, fz1_own, ap_fzE_nil, ap_fzE, sq_nx, sq_rt, sq_bk, sq_ct, sq_ex, sq_stuck, okb, exb, stb, ap_eC, vr_d, vr_own, ap_eVar, ap_eBin, ap_eUn, ap_aNil, ap_aCons, ap_eFz, fzL_d, fzL_fr, fz_d, fz_fr, rd_d, rd_fr, rd_own, allD_nil, allD_cons, ap_eTup, ap_eLst, ap_eCall, ap_eBi, boolL_d, ap_tVal, ap_tAn, ap_tOr, ap_tNt, ap_tTrue, ap_eIf, ap_eAn, ap_eOr, ap_eNt, ap_eChain, ap_okB, ap_okI, add_i, sub_i, mul_i, lt_i, le_i, gt_i, ge_i, bLen_t, bLen_l, bLen_f, bLen_o, bLen_s, bInt_i, bInt_b, bList_t, bList_l, bList_f, bList_o, bTuple_t, bTuple_l, bTuple_f, bTuple_o, bMax_2, bMin_2, ix1_some, ix_t, ix_l, ix_f, ix_o, ix_s, at_0, at_1, at_2, ap_oNone, o1_i, ap_oSome, ap_eSl, sl_t, sl_l, sl_f, sl_o, itL_t, itL_l, ap_iEx, ap_iEn, ap_iZp, zipL_t, zipL_l, ap_iR1, ap_iR2, int1_i, ap_gNm, ap_gTp, ap_gAll_nil, ap_gAll, semR_nx, semR_rt, List.getElem?_cons_zero, List.getElem?_cons_succ, List.set_cons_zero, List.set_cons_succ, List.length_cons, List.length_nil, if_true, if_false, Bool.not_true, Bool.not_false, Bool.false_eq_true, List.append_nil, List.nil_append, List.cons_append, reduceIte, isi_ii, isi_ib, isi_bi, isi_bb, isi_tt, isi_tl, isi_ll, isi_lt, isi_ss, and_d, or_d, and_b, or_b, Bool.or_false, Bool.false_or, Bool.or_true, Bool.true_or, Bool.and_true, Bool.true_and, Bool.and_false, Bool.false_and, wipe_nil, wipe_cons, D_nat, D_int, Nat.reduceAdd, Nat.reduceLeDiff, lm_ok, add_t, add_of, add_ff, add_df, add_dd, add_od, add_fd, Int.cast_ofNat_Int, Int.natCast_zero, Int.natCast_one, Nat.zero_add, Nat.zero_le, e3 h]
theorem e4s {i : Nat} (h : i < W.length) : s_need_side [lg W R, .int (i : Int)] = .ok .none := by
  rw [e_need_side, f_need_side]
  simp only [ap_sSeq, ap_sNil, ap_sRet, ap_sRetN, ap_sCt, ap_sBk, ap_sRaise, ap_sExp, ap_sAsg, putL_d, putL_fr, ap_sIf, ap_sFor, ap_sUnp, un1_ok, ap_sPar, par2_nx, ap_sApp, ap_sExt, ext2_fr, ext2_d, ap_onOwn, on1_own, ap_sSto, sto2_int, sto3_some, fz1_d, fz1_un, fz1_own, ap_fzE_nil, ap_fzE, sq_nx, sq_rt, sq_bk, sq_ct, sq_ex, sq_stuck, okb, exb, stb, ap_eC, vr_d, vr_own, ap_eVar, ap_eBin, ap_eUn, ap_aNil, ap_aCons, ap_eFz, fzL_d, fzL_fr, fz_d, fz_fr, rd_d, rd_fr, rd_own, allD_nil, allD_cons, ap_eTup, ap_eLst, ap_eCall, ap_eBi, boolL_d, ap_tVal, ap_tAn, ap_tOr, ap_tNt, ap_tTrue, ap_eIf, ap_eAn, ap_eOr, ap_eNt, ap_eChain, ap_okB, ap_okI, add_i, sub_i, mul_i, lt_i, le_i, gt_i, ge_i, bLen_t, bLen_l, bLen_f, bLen_o, bLen_s, bInt_i, bInt_b, bList_t, bList_l, bList_f, bList_o, bTuple_t, bTuple_l, bTuple_f, bTuple_o, bMax_2, bMin_2, ix1_some, ix_t, ix_l, ix_f, ix_o, ix_s, at_0, at_1, at_2, ap_oNone, o1_i, ap_oSome, ap_eSl, sl_t, sl_l, sl_f, sl_o, itL_t, itL_l, ap_iEx, ap_iEn, ap_iZp, zipL_t, zipL_l, ap_iR1, ap_iR2, int1_i, ap_gNm, ap_gTp, ap_gAll_nil, ap_gAll, semR_nx, semR_rt, List.getElem?_cons_zero, List.getElem?_cons_succ, List.set_cons_zero, List.set_cons_succ, List.length_cons, List.length_nil, if_true, if_false, Bool.not_true, Bool.not_false, Bool.false_eq_true, List.append_nil, List.nil_append, List.cons_append, reduceIte, isi_ii, isi_ib, isi_bi, isi_bb, isi_tt, isi_tl, isi_ll, isi_lt, isi_ss, and_d, or_d, and_b, or_b, Bool.or_false, Bool.false_or, Bool.or_true, Bool.true_or, Bool.and_true, Bool.true_and, Bool.and_false, Bool.false_and, wipe_nil, wipe_cons, D_nat, D_int, Nat.reduceAdd, Nat.reduceLeDiff, lm_ok, add_t, add_of, add_ff, add_df, add_dd, add_od, add_fd, Int.cast_ofNat_Int, Int.natCast_zero, Int.natCast_one, Nat.zero_add, Nat.zero_le, List.length_map]
  rw [e1t (by omega) (by omega)]
  simp only [ap_sSeq, ap_sNil, ap_sRet, ap_sRetN, ap_sCt, ap_sBk, ap_sRaise, ap_sExp, ap_sAsg, putL_d, putL_fr, ap_sIf, ap_sFor, ap_sUnp, un1_ok, ap_sPar, par2_nx, ap_sApp, ap_sExt, ext2_fr, ext2_d, ap_onOwn, on1_own, ap_sSto, sto2_int, sto3_some, fz1_d, fz1_un, fz1_own, ap_fzE_nil, ap_fzE, sq_nx, sq_rt, sq_bk, sq_ct, sq_ex, sq_stuck, okb, exb, stb, ap_eC, vr_d, vr_own, ap_eVar, ap_eBin, ap_eUn, ap_aNil, ap_aCons, ap_eFz, fzL_d, fzL_fr, fz_d, fz_fr, rd_d, rd_fr, rd_own, allD_nil, allD_cons, ap_eTup, ap_eLst, ap_eCall, ap_eBi, boolL_d, ap_tVal, ap_tAn, ap_tOr, ap_tNt, ap_tTrue, ap_eIf, ap_eAn, ap_eOr, ap_eNt, ap_eChain, ap_okB, ap_okI, add_i, sub_i, mul_i, lt_i, le_i, gt_i, ge_i, bLen_t, bLen_l, bLen_f, bLen_o, bLen_s, bInt_i, bInt_b, bList_t, bList_l, bList_f, bList_o, bTuple_t, bTuple_l, bTuple_f, bTuple_o, bMax_2, bMin_2, ix1_some, ix_t, ix_l, ix_f, ix_o, ix_s, at_0, at_1, at_2, ap_oNone, o1_i, ap_oSome, ap_eSl, sl_t, sl_l, sl_f, sl_o, itL_t, itL_l, ap_iEx, ap_iEn, ap_iZp, zipL_t, zipL_l, ap_iR1, ap_iR2, int1_i, ap_gNm, ap_gTp, ap_gAll_nil, ap_gAll, semR_nx, semR_rt, List.getElem?_cons_zero, List.getElem?_cons_succ, List.set_cons_zero, List.set_cons_succ, List.length_cons, List.length_nil, if_true, if_false, Bool.not_true, Bool.not_false, Bool.false_eq_true, List.append_nil, List.nil_append, List.cons_append, reduceIte, isi_ii, isi_ib, isi_bi, isi_bb, isi_tt, isi_tl, isi_ll, isi_lt, isi_ss, and_d, or_d, and_b, or_b, Bool.or_false, Bool.false_or, Bool.or_true, Bool.true_or, Bool.and_true, Bool.true_and, Bool.and_false, Bool.false_and, wipe_nil, wipe_cons, D_nat, D_int, Nat.reduceAdd, Nat.reduceLeDiff, lm_ok, add_t, add_of, add_ff, add_df, add_dd, add_od, add_fd, Int.cast_ofNat_Int, Int.natCast_zero, Int.natCast_one, Nat.zero_add, Nat.zero_le]
def leftOf (R : List Row) (i : Nat) : Int := ((R.filter fun x => decide (i = x.a ∨ i = x.b)).map (·.c)).sum
theorem e5 {i : Nat} (h : R.length ≤ 100) : s_left_of [lg W R, .int (i : Int)] = .ok (.int (leftOf R i)) := by
  have k (l2 l3 l4 : L) : q_left_of_0 [L.d (lg W R), L.d (.int (i : Int)), l2, l3, l4] = .ok (.fr ((R.filter fun x => decide (i = x.a ∨ i = x.b)).map fun x => .int x.c)) := by
    refine eLc_filter (α := Row) (xs := R) Dt.D (fun x => decide (i = x.a ∨ i = x.b)) (fun x => .int x.c) (by simp only [ap_sSeq, ap_sNil, ap_sRet, ap_sRetN, ap_sCt, ap_sBk, ap_sRaise, ap_sExp, ap_sAsg, putL_d, putL_fr, ap_sIf, ap_sFor, ap_sUnp, un1_ok, ap_sPar, par2_nx, ap_sApp, ap_sExt, ext2_fr, ext2_d, ap_onOwn, on1_own, ap_sSto, sto2_int, sto3_some, fz1_d, fz1_un, fz1_own, ap_fzE_nil, ap_fzE, sq_nx, sq_rt, sq_bk, sq_ct, sq_ex, sq_stuck, okb, exb, stb, ap_eC, vr_d, vr_own, ap_eVar, ap_eBin, ap_eUn, ap_aNil, ap_aCons, ap_eFz, fzL_d, fzL_fr, fz_d, fz_fr, rd_d, rd_fr, rd_own, allD_nil, allD_cons, ap_eTup, ap_eLst, ap_eCall, ap_eBi, boolL_d, ap_tVal, ap_tAn, ap_tOr, ap_tNt, ap_tTrue, ap_eIf, ap_eAn, ap_eOr, ap_eNt, ap_eChain, ap_okB, ap_okI, add_i, sub_i, mul_i, lt_i, le_i, gt_i, ge_i, bLen_t, bLen_l, bLen_f, bLen_o, bLen_s, bInt_i, bInt_b, bList_t, bList_l, bList_f, bList_o, bTuple_t, bTuple_l, bTuple_f, bTuple_o, bMax_2, bMin_2, ix1_some, ix_t, ix_l, ix_f, ix_o, ix_s, at_0, at_1, at_2, ap_oNone, o1_i, ap_oSome, ap_eSl, sl_t, sl_l, sl_f, sl_o, itL_t, itL_l, ap_iEx, ap_iEn, ap_iZp, zipL_t, zipL_l, ap_iR1, ap_iR2, int1_i, ap_gNm, ap_gTp, ap_gAll_nil, ap_gAll, semR_nx, semR_rt, List.getElem?_cons_zero, List.getElem?_cons_succ, List.set_cons_zero, List.set_cons_succ, List.length_cons, List.length_nil, if_true, if_false, Bool.not_true, Bool.not_false, Bool.false_eq_true, List.append_nil, List.nil_append, List.cons_append, reduceIte, isi_ii, isi_ib, isi_bi, isi_bb, isi_tt, isi_tl, isi_ll, isi_lt, isi_ss, and_d, or_d, and_b, or_b, Bool.or_false, Bool.false_or, Bool.or_true, Bool.true_or, Bool.and_true, Bool.true_and, Bool.and_false, Bool.false_and, wipe_nil, wipe_cons, D_nat, D_int, Nat.reduceAdd, Nat.reduceLeDiff, lm_ok, add_t, add_of, add_ff, add_df, add_dd, add_od, add_fd, Int.cast_ofNat_Int, Int.natCast_zero, Int.natCast_one, Nat.zero_add, Nat.zero_le]) rfl (by simp only [cap]; omega) fun y hx => ⟨_, rfl, ?_, fun _ => ?_⟩
    · simp only [ap_sSeq, ap_sNil, ap_sRet, ap_sRetN, ap_sCt, ap_sBk, ap_sRaise, ap_sExp, ap_sAsg, putL_d, putL_fr, ap_sIf, ap_sFor, ap_sUnp, un1_ok, ap_sPar, par2_nx, ap_sApp, ap_sExt, ext2_fr, ext2_d, ap_onOwn, on1_own, ap_sSto, sto2_int, sto3_some, fz1_d, fz1_un, fz1_own, ap_fzE_nil, ap_fzE, sq_nx, sq_rt, sq_bk, sq_ct, sq_ex, sq_stuck, okb, exb, stb, ap_eC, vr_d, vr_own, ap_eVar, ap_eBin, ap_eUn, ap_aNil, ap_aCons, ap_eFz, fzL_d, fzL_fr, fz_d, fz_fr, rd_d, rd_fr, rd_own, allD_nil, allD_cons, ap_eTup, ap_eLst, ap_eCall, ap_eBi, boolL_d, ap_tVal, ap_tAn, ap_tOr, ap_tNt, ap_tTrue, ap_eIf, ap_eAn, ap_eOr, ap_eNt, ap_eChain, ap_okB, ap_okI, add_i, sub_i, mul_i, lt_i, le_i, gt_i, ge_i, bLen_t, bLen_l, bLen_f, bLen_o, bLen_s, bInt_i, bInt_b, bList_t, bList_l, bList_f, bList_o, bTuple_t, bTuple_l, bTuple_f, bTuple_o, bMax_2, bMin_2, ix1_some, ix_t, ix_l, ix_f, ix_o, ix_s, at_0, at_1, at_2, ap_oNone, o1_i, ap_oSome, ap_eSl, sl_t, sl_l, sl_f, sl_o, itL_t, itL_l, ap_iEx, ap_iEn, ap_iZp, zipL_t, zipL_l, ap_iR1, ap_iR2, int1_i, ap_gNm, ap_gTp, ap_gAll_nil, ap_gAll, semR_nx, semR_rt, List.getElem?_cons_zero, List.getElem?_cons_succ, List.set_cons_zero, List.set_cons_succ, List.length_cons, List.length_nil, if_true, if_false, Bool.not_true, Bool.not_false, Bool.false_eq_true, List.append_nil, List.nil_append, List.cons_append, reduceIte, isi_ii, isi_ib, isi_bi, isi_bb, isi_tt, isi_tl, isi_ll, isi_lt, isi_ss, and_d, or_d, and_b, or_b, Bool.or_false, Bool.false_or, Bool.or_true, Bool.true_or, Bool.and_true, Bool.true_and, Bool.and_false, Bool.false_and, wipe_nil, wipe_cons, D_nat, D_int, Nat.reduceAdd, Nat.reduceLeDiff, lm_ok, add_t, add_of, add_ff, add_df, add_dd, add_od, add_fd, Int.cast_ofNat_Int, Int.natCast_zero, Int.natCast_one, Nat.zero_add, Nat.zero_le, in_t2]
      rw [show decide ((i : Int) = y.a ∨ (i : Int) = y.b) = decide (i = y.a ∨ i = y.b) from decide_eq_decide.mpr (by omega)]
    · simp only [ap_sSeq, ap_sNil, ap_sRet, ap_sRetN, ap_sCt, ap_sBk, ap_sRaise, ap_sExp, ap_sAsg, putL_d, putL_fr, ap_sIf, ap_sFor, ap_sUnp, un1_ok, ap_sPar, par2_nx, ap_sApp, ap_sExt, ext2_fr, ext2_d, ap_onOwn, on1_own, ap_sSto, sto2_int, sto3_some, fz1_d, fz1_un, fz1_own, ap_fzE_nil, ap_fzE, sq_nx, sq_rt, sq_bk, sq_ct, sq_ex, sq_stuck, okb, exb, stb, ap_eC, vr_d, vr_own, ap_eVar, ap_eBin, ap_eUn, ap_aNil, ap_aCons, ap_eFz, fzL_d, fzL_fr, fz_d, fz_fr, rd_d, rd_fr, rd_own, allD_nil, allD_cons, ap_eTup, ap_eLst, ap_eCall, ap_eBi, boolL_d, ap_tVal, ap_tAn, ap_tOr, ap_tNt, ap_tTrue, ap_eIf, ap_eAn, ap_eOr, ap_eNt, ap_eChain, ap_okB, ap_okI, add_i, sub_i, mul_i, lt_i, le_i, gt_i, ge_i, bLen_t, bLen_l, bLen_f, bLen_o, bLen_s, bInt_i, bInt_b, bList_t, bList_l, bList_f, bList_o, bTuple_t, bTuple_l, bTuple_f, bTuple_o, bMax_2, bMin_2, ix1_some, ix_t, ix_l, ix_f, ix_o, ix_s, at_0, at_1, at_2, ap_oNone, o1_i, ap_oSome, ap_eSl, sl_t, sl_l, sl_f, sl_o, itL_t, itL_l, ap_iEx, ap_iEn, ap_iZp, zipL_t, zipL_l, ap_iR1, ap_iR2, int1_i, ap_gNm, ap_gTp, ap_gAll_nil, ap_gAll, semR_nx, semR_rt, List.getElem?_cons_zero, List.getElem?_cons_succ, List.set_cons_zero, List.set_cons_succ, List.length_cons, List.length_nil, if_true, if_false, Bool.not_true, Bool.not_false, Bool.false_eq_true, List.append_nil, List.nil_append, List.cons_append, reduceIte, isi_ii, isi_ib, isi_bi, isi_bb, isi_tt, isi_tl, isi_ll, isi_lt, isi_ss, and_d, or_d, and_b, or_b, Bool.or_false, Bool.false_or, Bool.or_true, Bool.true_or, Bool.and_true, Bool.true_and, Bool.and_false, Bool.false_and, wipe_nil, wipe_cons, D_nat, D_int, Nat.reduceAdd, Nat.reduceLeDiff, lm_ok, add_t, add_of, add_ff, add_df, add_dd, add_od, add_fd, Int.cast_ofNat_Int, Int.natCast_zero, Int.natCast_one, Nat.zero_add, Nat.zero_le]
  rw [e_left_of, f_left_of]
  simp only [ap_sSeq, ap_sNil, ap_sRet, ap_sRetN, ap_sCt, ap_sBk, ap_sRaise, ap_sExp, ap_sAsg, putL_d, putL_fr, ap_sIf, ap_sFor, ap_sUnp, un1_ok, ap_sPar, par2_nx, ap_sApp, ap_sExt, ext2_fr, ext2_d, ap_onOwn, on1_own, ap_sSto, sto2_int, sto3_some, fz1_d, fz1_un, fz1_own, ap_fzE_nil, ap_fzE, sq_nx, sq_rt, sq_bk, sq_ct, sq_ex, sq_stuck, okb, exb, stb, ap_eC, vr_d, vr_own, ap_eVar, ap_eBin, ap_eUn, ap_aNil, ap_aCons, ap_eFz, fzL_d, fzL_fr, fz_d, fz_fr, rd_d, rd_fr, rd_own, allD_nil, allD_cons, ap_eTup, ap_eLst, ap_eCall, ap_eBi, boolL_d, ap_tVal, ap_tAn, ap_tOr, ap_tNt, ap_tTrue, ap_eIf, ap_eAn, ap_eOr, ap_eNt, ap_eChain, ap_okB, ap_okI, add_i, sub_i, mul_i, lt_i, le_i, gt_i, ge_i, bLen_t, bLen_l, bLen_f, bLen_o, bLen_s, bInt_i, bInt_b, bList_t, bList_l, bList_f, bList_o, bTuple_t, bTuple_l, bTuple_f, bTuple_o, bMax_2, bMin_2, ix1_some, ix_t, ix_l, ix_f, ix_o, ix_s, at_0, at_1, at_2, ap_oNone, o1_i, ap_oSome, ap_eSl, sl_t, sl_l, sl_f, sl_o, itL_t, itL_l, ap_iEx, ap_iEn, ap_iZp, zipL_t, zipL_l, ap_iR1, ap_iR2, int1_i, ap_gNm, ap_gTp, ap_gAll_nil, ap_gAll, semR_nx, semR_rt, List.getElem?_cons_zero, List.getElem?_cons_succ, List.set_cons_zero, List.set_cons_succ, List.length_cons, List.length_nil, if_true, if_false, Bool.not_true, Bool.not_false, Bool.false_eq_true, List.append_nil, List.nil_append, List.cons_append, reduceIte, isi_ii, isi_ib, isi_bi, isi_bb, isi_tt, isi_tl, isi_ll, isi_lt, isi_ss, and_d, or_d, and_b, or_b, Bool.or_false, Bool.false_or, Bool.or_true, Bool.true_or, Bool.and_true, Bool.true_and, Bool.and_false, Bool.false_and, wipe_nil, wipe_cons, D_nat, D_int, Nat.reduceAdd, Nat.reduceLeDiff, lm_ok, add_t, add_of, add_ff, add_df, add_dd, add_od, add_fd, Int.cast_ofNat_Int, Int.natCast_zero, Int.natCast_one, Nat.zero_add, Nat.zero_le, k, bSum_p]
  rfl
theorem e6 {i : Nat} (h : Ok W R) (hi : i < W.length) : s_matches_left [lg W R, .int (i : Int)] = .ok (.int (leftOf R i)) := by
  rw [e_matches_left, f_matches_left]
  simp only [ap_sSeq, ap_sNil, ap_sRet, ap_sRetN, ap_sCt, ap_sBk, ap_sRaise, ap_sExp, ap_sAsg, putL_d, putL_fr, ap_sIf, ap_sFor, ap_sUnp, un1_ok, ap_sPar, par2_nx, ap_sApp, ap_sExt, ext2_fr, ext2_d, ap_onOwn, on1_own, ap_sSto, sto2_int, sto3_some, fz1_d, fz1_un, fz1_own, ap_fzE_nil, ap_fzE, sq_nx, sq_rt, sq_bk, sq_ct, sq_ex, sq_stuck, okb, exb, stb, ap_eC, vr_d, vr_own, ap_eVar, ap_eBin, ap_eUn, ap_aNil, ap_aCons, ap_eFz, fzL_d, fzL_fr, fz_d, fz_fr, rd_d, rd_fr, rd_own, allD_nil, allD_cons, ap_eTup, ap_eLst, ap_eCall, ap_eBi, boolL_d, ap_tVal, ap_tAn, ap_tOr, ap_tNt, ap_tTrue, ap_eIf, ap_eAn, ap_eOr, ap_eNt, ap_eChain, ap_okB, ap_okI, add_i, sub_i, mul_i, lt_i, le_i, gt_i, ge_i, bLen_t, bLen_l, bLen_f, bLen_o, bLen_s, bInt_i, bInt_b, bList_t, bList_l, bList_f, bList_o, bTuple_t, bTuple_l, bTuple_f, bTuple_o, bMax_2, bMin_2, ix1_some, ix_t, ix_l, ix_f, ix_o, ix_s, at_0, at_1, at_2, ap_oNone, o1_i, ap_oSome, ap_eSl, sl_t, sl_l, sl_f, sl_o, itL_t, itL_l, ap_iEx, ap_iEn, ap_iZp, zipL_t, zipL_l, ap_iR1, ap_iR2, int1_i, ap_gNm, ap_gTp, ap_gAll_nil, ap_gAll, semR_nx, semR_rt, List.getElem?_cons_zero, List.getElem?_cons_succ, List.set_cons_zero, List.set_cons_succ, List.length_cons, List.length_nil, if_true, if_false, Bool.not_true, Bool.not_false, Bool.false_eq_true, List.append_nil, List.nil_append, List.cons_append, reduceIte, isi_ii, isi_ib, isi_bi, isi_bb, isi_tt, isi_tl, isi_ll, isi_lt, isi_ss, and_d, or_d, and_b, or_b, Bool.or_false, Bool.false_or, Bool.or_true, Bool.true_or, Bool.and_true, Bool.true_and, Bool.and_false, Bool.false_and, wipe_nil, wipe_cons, D_nat, D_int, Nat.reduceAdd, Nat.reduceLeDiff, lm_ok, add_t, add_of, add_ff, add_df, add_dd, add_od, add_fd, Int.cast_ofNat_Int, Int.natCast_zero, Int.natCast_one, Nat.zero_add, Nat.zero_le, e4 h, e4s hi, e5 h.l]
def placesOf (W : List Int) : List Int := W.map fun o => 1 + ((W.filter fun x => decide (o < x)).length : Int)
theorem e7 (h : W.length ≤ 100) : s_places_of [.tuple (W.map .int)] = .ok (.list ((placesOf W).map .int)) := by
  have k0 (o : Int) (l2 : L) : q_places_of_0 [L.d (.tuple (W.map .int)), L.d (.int o), l2] = .ok (.fr ((W.filter fun x => decide (o < x)).map fun _ => .int 1)) := by
    refine eLc_filter (α := Int) (xs := W) .int (fun x => decide (o < x)) (fun x => .int 1) (by simp only [ap_sSeq, ap_sNil, ap_sRet, ap_sRetN, ap_sCt, ap_sBk, ap_sRaise, ap_sExp, ap_sAsg, putL_d, putL_fr, ap_sIf, ap_sFor, ap_sUnp, un1_ok, ap_sPar, par2_nx, ap_sApp, ap_sExt, ext2_fr, ext2_d, ap_onOwn, on1_own, ap_sSto, sto2_int, sto3_some, fz1_d, fz1_un, fz1_own, ap_fzE_nil, ap_fzE, sq_nx, sq_rt, sq_bk, sq_ct, sq_ex, sq_stuck, okb, exb, stb, ap_eC, vr_d, vr_own, ap_eVar, ap_eBin, ap_eUn, ap_aNil, ap_aCons, ap_eFz, fzL_d, fzL_fr, fz_d, fz_fr, rd_d, rd_fr, rd_own, allD_nil, allD_cons, ap_eTup, ap_eLst, ap_eCall, ap_eBi, boolL_d, ap_tVal, ap_tAn, ap_tOr, ap_tNt, ap_tTrue, ap_eIf, ap_eAn, ap_eOr, ap_eNt, ap_eChain, ap_okB, ap_okI, add_i, sub_i, mul_i, lt_i, le_i, gt_i, ge_i, bLen_t, bLen_l, bLen_f, bLen_o, bLen_s, bInt_i, bInt_b, bList_t, bList_l, bList_f, bList_o, bTuple_t, bTuple_l, bTuple_f, bTuple_o, bMax_2, bMin_2, ix1_some, ix_t, ix_l, ix_f, ix_o, ix_s, at_0, at_1, at_2, ap_oNone, o1_i, ap_oSome, ap_eSl, sl_t, sl_l, sl_f, sl_o, itL_t, itL_l, ap_iEx, ap_iEn, ap_iZp, zipL_t, zipL_l, ap_iR1, ap_iR2, int1_i, ap_gNm, ap_gTp, ap_gAll_nil, ap_gAll, semR_nx, semR_rt, List.getElem?_cons_zero, List.getElem?_cons_succ, List.set_cons_zero, List.set_cons_succ, List.length_cons, List.length_nil, if_true, if_false, Bool.not_true, Bool.not_false, Bool.false_eq_true, List.append_nil, List.nil_append, List.cons_append, reduceIte, isi_ii, isi_ib, isi_bi, isi_bb, isi_tt, isi_tl, isi_ll, isi_lt, isi_ss, and_d, or_d, and_b, or_b, Bool.or_false, Bool.false_or, Bool.or_true, Bool.true_or, Bool.and_true, Bool.true_and, Bool.and_false, Bool.false_and, wipe_nil, wipe_cons, D_nat, D_int, Nat.reduceAdd, Nat.reduceLeDiff, lm_ok, add_t, add_of, add_ff, add_df, add_dd, add_od, add_fd, Int.cast_ofNat_Int, Int.natCast_zero, Int.natCast_one, Nat.zero_add, Nat.zero_le]) rfl (by simp only [cap]; omega) fun y hx => ⟨_, rfl, ?_, fun _ => ?_⟩
    · simp only [ap_sSeq, ap_sNil, ap_sRet, ap_sRetN, ap_sCt, ap_sBk, ap_sRaise, ap_sExp, ap_sAsg, putL_d, putL_fr, ap_sIf, ap_sFor, ap_sUnp, un1_ok, ap_sPar, par2_nx, ap_sApp, ap_sExt, ext2_fr, ext2_d, ap_onOwn, on1_own, ap_sSto, sto2_int, sto3_some, fz1_d, fz1_un, fz1_own, ap_fzE_nil, ap_fzE, sq_nx, sq_rt, sq_bk, sq_ct, sq_ex, sq_stuck, okb, exb, stb, ap_eC, vr_d, vr_own, ap_eVar, ap_eBin, ap_eUn, ap_aNil, ap_aCons, ap_eFz, fzL_d, fzL_fr, fz_d, fz_fr, rd_d, rd_fr, rd_own, allD_nil, allD_cons, ap_eTup, ap_eLst, ap_eCall, ap_eBi, boolL_d, ap_tVal, ap_tAn, ap_tOr, ap_tNt, ap_tTrue, ap_eIf, ap_eAn, ap_eOr, ap_eNt, ap_eChain, ap_okB, ap_okI, add_i, sub_i, mul_i, lt_i, le_i, gt_i, ge_i, bLen_t, bLen_l, bLen_f, bLen_o, bLen_s, bInt_i, bInt_b, bList_t, bList_l, bList_f, bList_o, bTuple_t, bTuple_l, bTuple_f, bTuple_o, bMax_2, bMin_2, ix1_some, ix_t, ix_l, ix_f, ix_o, ix_s, at_0, at_1, at_2, ap_oNone, o1_i, ap_oSome, ap_eSl, sl_t, sl_l, sl_f, sl_o, itL_t, itL_l, ap_iEx, ap_iEn, ap_iZp, zipL_t, zipL_l, ap_iR1, ap_iR2, int1_i, ap_gNm, ap_gTp, ap_gAll_nil, ap_gAll, semR_nx, semR_rt, List.getElem?_cons_zero, List.getElem?_cons_succ, List.set_cons_zero, List.set_cons_succ, List.length_cons, List.length_nil, if_true, if_false, Bool.not_true, Bool.not_false, Bool.false_eq_true, List.append_nil, List.nil_append, List.cons_append, reduceIte, isi_ii, isi_ib, isi_bi, isi_bb, isi_tt, isi_tl, isi_ll, isi_lt, isi_ss, and_d, or_d, and_b, or_b, Bool.or_false, Bool.false_or, Bool.or_true, Bool.true_or, Bool.and_true, Bool.true_and, Bool.and_false, Bool.false_and, wipe_nil, wipe_cons, D_nat, D_int, Nat.reduceAdd, Nat.reduceLeDiff, lm_ok, add_t, add_of, add_ff, add_df, add_dd, add_od, add_fd, Int.cast_ofNat_Int, Int.natCast_zero, Int.natCast_one, Nat.zero_add, Nat.zero_le]
    · simp only [ap_sSeq, ap_sNil, ap_sRet, ap_sRetN, ap_sCt, ap_sBk, ap_sRaise, ap_sExp, ap_sAsg, putL_d, putL_fr, ap_sIf, ap_sFor, ap_sUnp, un1_ok, ap_sPar, par2_nx, ap_sApp, ap_sExt, ext2_fr, ext2_d, ap_onOwn, on1_own, ap_sSto, sto2_int, sto3_some, fz1_d, fz1_un, fz1_own, ap_fzE_nil, ap_fzE, sq_nx, sq_rt, sq_bk, sq_ct, sq_ex, sq_stuck, okb, exb, stb, ap_eC, vr_d, vr_own, ap_eVar, ap_eBin, ap_eUn, ap_aNil, ap_aCons, ap_eFz, fzL_d, fzL_fr, fz_d, fz_fr, rd_d, rd_fr, rd_own, allD_nil, allD_cons, ap_eTup, ap_eLst, ap_eCall, ap_eBi, boolL_d, ap_tVal, ap_tAn, ap_tOr, ap_tNt, ap_tTrue, ap_eIf, ap_eAn, ap_eOr, ap_eNt, ap_eChain, ap_okB, ap_okI, add_i, sub_i, mul_i, lt_i, le_i, gt_i, ge_i, bLen_t, bLen_l, bLen_f, bLen_o, bLen_s, bInt_i, bInt_b, bList_t, bList_l, bList_f, bList_o, bTuple_t, bTuple_l, bTuple_f, bTuple_o, bMax_2, bMin_2, ix1_some, ix_t, ix_l, ix_f, ix_o, ix_s, at_0, at_1, at_2, ap_oNone, o1_i, ap_oSome, ap_eSl, sl_t, sl_l, sl_f, sl_o, itL_t, itL_l, ap_iEx, ap_iEn, ap_iZp, zipL_t, zipL_l, ap_iR1, ap_iR2, int1_i, ap_gNm, ap_gTp, ap_gAll_nil, ap_gAll, semR_nx, semR_rt, List.getElem?_cons_zero, List.getElem?_cons_succ, List.set_cons_zero, List.set_cons_succ, List.length_cons, List.length_nil, if_true, if_false, Bool.not_true, Bool.not_false, Bool.false_eq_true, List.append_nil, List.nil_append, List.cons_append, reduceIte, isi_ii, isi_ib, isi_bi, isi_bb, isi_tt, isi_tl, isi_ll, isi_lt, isi_ss, and_d, or_d, and_b, or_b, Bool.or_false, Bool.false_or, Bool.or_true, Bool.true_or, Bool.and_true, Bool.true_and, Bool.and_false, Bool.false_and, wipe_nil, wipe_cons, D_nat, D_int, Nat.reduceAdd, Nat.reduceLeDiff, lm_ok, add_t, add_of, add_ff, add_df, add_dd, add_od, add_fd, Int.cast_ofNat_Int, Int.natCast_zero, Int.natCast_one, Nat.zero_add, Nat.zero_le]
  have k1 (l1 l2 : L) : q_places_of_1 [L.d (.tuple (W.map .int)), l1, l2] = .ok (.fr (W.map fun o => .int (1 + ((W.filter fun x => decide (o < x)).length : Int)))) := by
    refine eLc_map (α := Int) (xs := W) .int (fun o => .int (1 + ((W.filter fun x => decide (o < x)).length : Int))) (by simp only [ap_sSeq, ap_sNil, ap_sRet, ap_sRetN, ap_sCt, ap_sBk, ap_sRaise, ap_sExp, ap_sAsg, putL_d, putL_fr, ap_sIf, ap_sFor, ap_sUnp, un1_ok, ap_sPar, par2_nx, ap_sApp, ap_sExt, ext2_fr, ext2_d, ap_onOwn, on1_own, ap_sSto, sto2_int, sto3_some, fz1_d, fz1_un, fz1_own, ap_fzE_nil, ap_fzE, sq_nx, sq_rt, sq_bk, sq_ct, sq_ex, sq_stuck, okb, exb, stb, ap_eC, vr_d, vr_own, ap_eVar, ap_eBin, ap_eUn, ap_aNil, ap_aCons, ap_eFz, fzL_d, fzL_fr, fz_d, fz_fr, rd_d, rd_fr, rd_own, allD_nil, allD_cons, ap_eTup, ap_eLst, ap_eCall, ap_eBi, boolL_d, ap_tVal, ap_tAn, ap_tOr, ap_tNt, ap_tTrue, ap_eIf, ap_eAn, ap_eOr, ap_eNt, ap_eChain, ap_okB, ap_okI, add_i, sub_i, mul_i, lt_i, le_i, gt_i, ge_i, bLen_t, bLen_l, bLen_f, bLen_o, bLen_s, bInt_i, bInt_b, bList_t, bList_l, bList_f, bList_o, bTuple_t, bTuple_l, bTuple_f, bTuple_o, bMax_2, bMin_2, ix1_some, ix_t, ix_l, ix_f, ix_o, ix_s, at_0, at_1, at_2, ap_oNone, o1_i, ap_oSome, ap_eSl, sl_t, sl_l, sl_f, sl_o, itL_t, itL_l, ap_iEx, ap_iEn, ap_iZp, zipL_t, zipL_l, ap_iR1, ap_iR2, int1_i, ap_gNm, ap_gTp, ap_gAll_nil, ap_gAll, semR_nx, semR_rt, List.getElem?_cons_zero, List.getElem?_cons_succ, List.set_cons_zero, List.set_cons_succ, List.length_cons, List.length_nil, if_true, if_false, Bool.not_true, Bool.not_false, Bool.false_eq_true, List.append_nil, List.nil_append, List.cons_append, reduceIte, isi_ii, isi_ib, isi_bi, isi_bb, isi_tt, isi_tl, isi_ll, isi_lt, isi_ss, and_d, or_d, and_b, or_b, Bool.or_false, Bool.false_or, Bool.or_true, Bool.true_or, Bool.and_true, Bool.true_and, Bool.and_false, Bool.false_and, wipe_nil, wipe_cons, D_nat, D_int, Nat.reduceAdd, Nat.reduceLeDiff, lm_ok, add_t, add_of, add_ff, add_df, add_dd, add_od, add_fd, Int.cast_ofNat_Int, Int.natCast_zero, Int.natCast_one, Nat.zero_add, Nat.zero_le]) rfl (by simp only [cap]; omega) fun y hx => ⟨_, rfl, ?_⟩
    simp only [ap_sSeq, ap_sNil, ap_sRet, ap_sRetN, ap_sCt, ap_sBk, ap_sRaise, ap_sExp, ap_sAsg, putL_d, putL_fr, ap_sIf, ap_sFor, ap_sUnp, un1_ok, ap_sPar, par2_nx, ap_sApp, ap_sExt, ext2_fr, ext2_d, ap_onOwn, on1_own, ap_sSto, sto2_int, sto3_some, fz1_d, fz1_un, fz1_own, ap_fzE_nil, ap_fzE, sq_nx, sq_rt, sq_bk, sq_ct, sq_ex, sq_stuck, okb, exb, stb, ap_eC, vr_d, vr_own, ap_eVar, ap_eBin, ap_eUn, ap_aNil, ap_aCons, ap_eFz, fzL_d, fzL_fr, fz_d, fz_fr, rd_d, rd_fr, rd_own, allD_nil, allD_cons, ap_eTup, ap_eLst, ap_eCall, ap_eBi, boolL_d, ap_tVal, ap_tAn, ap_tOr, ap_tNt, ap_tTrue, ap_eIf, ap_eAn, ap_eOr, ap_eNt, ap_eChain, ap_okB, ap_okI, add_i, sub_i, mul_i, lt_i, le_i, gt_i, ge_i, bLen_t, bLen_l, bLen_f, bLen_o, bLen_s, bInt_i, bInt_b, bList_t, bList_l, bList_f, bList_o, bTuple_t, bTuple_l, bTuple_f, bTuple_o, bMax_2, bMin_2, ix1_some, ix_t, ix_l, ix_f, ix_o, ix_s, at_0, at_1, at_2, ap_oNone, o1_i, ap_oSome, ap_eSl, sl_t, sl_l, sl_f, sl_o, itL_t, itL_l, ap_iEx, ap_iEn, ap_iZp, zipL_t, zipL_l, ap_iR1, ap_iR2, int1_i, ap_gNm, ap_gTp, ap_gAll_nil, ap_gAll, semR_nx, semR_rt, List.getElem?_cons_zero, List.getElem?_cons_succ, List.set_cons_zero, List.set_cons_succ, List.length_cons, List.length_nil, if_true, if_false, Bool.not_true, Bool.not_false, Bool.false_eq_true, List.append_nil, List.nil_append, List.cons_append, reduceIte, isi_ii, isi_ib, isi_bi, isi_bb, isi_tt, isi_tl, isi_ll, isi_lt, isi_ss, and_d, or_d, and_b, or_b, Bool.or_false, Bool.false_or, Bool.or_true, Bool.true_or, Bool.and_true, Bool.true_and, Bool.and_false, Bool.false_and, wipe_nil, wipe_cons, D_nat, D_int, Nat.reduceAdd, Nat.reduceLeDiff, lm_ok, add_t, add_of, add_ff, add_df, add_dd, add_od, add_fd, Int.cast_ofNat_Int, Int.natCast_zero, Int.natCast_one, Nat.zero_add, Nat.zero_le, k0, List.length_map]
  rw [e_places_of, f_places_of]
  simp only [ap_sSeq, ap_sNil, ap_sRet, ap_sRetN, ap_sCt, ap_sBk, ap_sRaise, ap_sExp, ap_sAsg, putL_d, putL_fr, ap_sIf, ap_sFor, ap_sUnp, un1_ok, ap_sPar, par2_nx, ap_sApp, ap_sExt, ext2_fr, ext2_d, ap_onOwn, on1_own, ap_sSto, sto2_int, sto3_some, fz1_d, fz1_un, fz1_own, ap_fzE_nil, ap_fzE, sq_nx, sq_rt, sq_bk, sq_ct, sq_ex, sq_stuck, okb, exb, stb, ap_eC, vr_d, vr_own, ap_eVar, ap_eBin, ap_eUn, ap_aNil, ap_aCons, ap_eFz, fzL_d, fzL_fr, fz_d, fz_fr, rd_d, rd_fr, rd_own, allD_nil, allD_cons, ap_eTup, ap_eLst, ap_eCall, ap_eBi, boolL_d, ap_tVal, ap_tAn, ap_tOr, ap_tNt, ap_tTrue, ap_eIf, ap_eAn, ap_eOr, ap_eNt, ap_eChain, ap_okB, ap_okI, add_i, sub_i, mul_i, lt_i, le_i, gt_i, ge_i, bLen_t, bLen_l, bLen_f, bLen_o, bLen_s, bInt_i, bInt_b, bList_t, bList_l, bList_f, bList_o, bTuple_t, bTuple_l, bTuple_f, bTuple_o, bMax_2, bMin_2, ix1_some, ix_t, ix_l, ix_f, ix_o, ix_s, at_0, at_1, at_2, ap_oNone, o1_i, ap_oSome, ap_eSl, sl_t, sl_l, sl_f, sl_o, itL_t, itL_l, ap_iEx, ap_iEn, ap_iZp, zipL_t, zipL_l, ap_iR1, ap_iR2, int1_i, ap_gNm, ap_gTp, ap_gAll_nil, ap_gAll, semR_nx, semR_rt, List.getElem?_cons_zero, List.getElem?_cons_succ, List.set_cons_zero, List.set_cons_succ, List.length_cons, List.length_nil, if_true, if_false, Bool.not_true, Bool.not_false, Bool.false_eq_true, List.append_nil, List.nil_append, List.cons_append, reduceIte, isi_ii, isi_ib, isi_bi, isi_bb, isi_tt, isi_tl, isi_ll, isi_lt, isi_ss, and_d, or_d, and_b, or_b, Bool.or_false, Bool.false_or, Bool.or_true, Bool.true_or, Bool.and_true, Bool.true_and, Bool.and_false, Bool.false_and, wipe_nil, wipe_cons, D_nat, D_int, Nat.reduceAdd, Nat.reduceLeDiff, lm_ok, add_t, add_of, add_ff, add_df, add_dd, add_od, add_fd, Int.cast_ofNat_Int, Int.natCast_zero, Int.natCast_one, Nat.zero_add, Nat.zero_le, k1]
  unfold placesOf
  rw [List.map_map]
  rfl
theorem e7b (h : Ok W R) : s_places [lg W R] = .ok (.list ((placesOf W).map .int)) := by
  rw [e_places, f_places]
  simp only [ap_sSeq, ap_sNil, ap_sRet, ap_sRetN, ap_sCt, ap_sBk, ap_sRaise, ap_sExp, ap_sAsg, putL_d, putL_fr, ap_sIf, ap_sFor, ap_sUnp, un1_ok, ap_sPar, par2_nx, ap_sApp, ap_sExt, ext2_fr, ext2_d, ap_onOwn, on1_own, ap_sSto, sto2_int, sto3_some, fz1_d, fz1_un, fz1_own, ap_fzE_nil, ap_fzE, sq_nx, sq_rt, sq_bk, sq_ct, sq_ex, sq_stuck, okb, exb, stb, ap_eC, vr_d, vr_own, ap_eVar, ap_eBin, ap_eUn, ap_aNil, ap_aCons, ap_eFz, fzL_d, fzL_fr, fz_d, fz_fr, rd_d, rd_fr, rd_own, allD_nil, allD_cons, ap_eTup, ap_eLst, ap_eCall, ap_eBi, boolL_d, ap_tVal, ap_tAn, ap_tOr, ap_tNt, ap_tTrue, ap_eIf, ap_eAn, ap_eOr, ap_eNt, ap_eChain, ap_okB, ap_okI, add_i, sub_i, mul_i, lt_i, le_i, gt_i, ge_i, bLen_t, bLen_l, bLen_f, bLen_o, bLen_s, bInt_i, bInt_b, bList_t, bList_l, bList_f, bList_o, bTuple_t, bTuple_l, bTuple_f, bTuple_o, bMax_2, bMin_2, ix1_some, ix_t, ix_l, ix_f, ix_o, ix_s, at_0, at_1, at_2, ap_oNone, o1_i, ap_oSome, ap_eSl, sl_t, sl_l, sl_f, sl_o, itL_t, itL_l, ap_iEx, ap_iEn, ap_iZp, zipL_t, zipL_l, ap_iR1, ap_iR2, int1_i, ap_gNm, ap_gTp, ap_gAll_nil, ap_gAll, semR_nx, semR_rt, List.getElem?_cons_zero, List.getElem?_cons_succ, List.set_cons_zero, List.set_cons_succ, List.length_cons, List.length_nil, if_true, if_false, Bool.not_true, Bool.not_false, Bool.false_eq_true, List.append_nil, List.nil_append, List.cons_append, reduceIte, isi_ii, isi_ib, isi_bi, isi_bb, isi_tt, isi_tl, isi_ll, isi_lt, isi_ss, and_d, or_d, and_b, or_b, Bool.or_false, Bool.false_or, Bool.or_true, Bool.true_or, Bool.and_true, Bool.true_and, Bool.and_false, Bool.false_and, wipe_nil, wipe_cons, D_nat, D_int, Nat.reduceAdd, Nat.reduceLeDiff, lm_ok, add_t, add_of, add_ff, add_df, add_dd, add_od, add_fd, Int.cast_ofNat_Int, Int.natCast_zero, Int.natCast_one, Nat.zero_add, Nat.zero_le, e4 h, e7 (W := W) (by have := h.n6; omega)]
theorem set_parts (W : List Int) (i : Nat) (v : Int) (h : i < W.length) : ((W.map PyData.int).take i ++ [.int v]) ++ (W.map PyData.int).drop (i + 1) = (W.set i v).map .int := by
  rw [List.set_eq_take_append_cons_drop, if_pos h]
  simp
theorem e8 {i : Nat} {v w : Int} (h : W[i]? = some w) (hl : W.length ≤ 100) : s_with_wins [.tuple (W.map .int), .int (i : Int), .int v] = .ok (.tuple ((W.set i (w + v)).map .int)) := by
  obtain ⟨hi, _⟩ := List.getElem?_eq_some_iff.mp h
  have a1 : atI (W.map PyData.int) (i : Int) = some (.int w) := at_nat (by rw [List.getElem?_map, h]; rfl)
  have c1 : (i : Int) + 1 = ((i + 1 : Nat) : Int) := by omega
  rw [e_with_wins, f_with_wins]
  simp only [ap_sSeq, ap_sNil, ap_sRet, ap_sRetN, ap_sCt, ap_sBk, ap_sRaise, ap_sExp, ap_sAsg, putL_d, putL_fr, ap_sIf, ap_sFor, ap_sUnp, un1_ok, ap_sPar, par2_nx, ap_sApp, ap_sExt, ext2_fr, ext2_d, ap_onOwn, on1_own, ap_sSto, sto2_int, sto3_some, fz1_d, fz1_un, fz1_own, ap_fzE_nil, ap_fzE, sq_nx, sq_rt, sq_bk, sq_ct, sq_ex, sq_stuck, okb, exb, stb, ap_eC, vr_d, vr_own, ap_eVar, ap_eBin, ap_eUn, ap_aNil, ap_aCons, ap_eFz, fzL_d, fzL_fr, fz_d, fz_fr, rd_d, rd_fr, rd_own, allD_nil, allD_cons, ap_eTup, ap_eLst, ap_eCall, ap_eBi, boolL_d, ap_tVal, ap_tAn, ap_tOr, ap_tNt, ap_tTrue, ap_eIf, ap_eAn, ap_eOr, ap_eNt, ap_eChain, ap_okB, ap_okI, add_i, sub_i, mul_i, lt_i, le_i, gt_i, ge_i, bLen_t, bLen_l, bLen_f, bLen_o, bLen_s, bInt_i, bInt_b, bList_t, bList_l, bList_f, bList_o, bTuple_t, bTuple_l, bTuple_f, bTuple_o, bMax_2, bMin_2, ix1_some, ix_t, ix_l, ix_f, ix_o, ix_s, at_0, at_1, at_2, ap_oNone, o1_i, ap_oSome, ap_eSl, sl_t, sl_l, sl_f, sl_o, itL_t, itL_l, ap_iEx, ap_iEn, ap_iZp, zipL_t, zipL_l, ap_iR1, ap_iR2, int1_i, ap_gNm, ap_gTp, ap_gAll_nil, ap_gAll, semR_nx, semR_rt, List.getElem?_cons_zero, List.getElem?_cons_succ, List.set_cons_zero, List.set_cons_succ, List.length_cons, List.length_nil, if_true, if_false, Bool.not_true, Bool.not_false, Bool.false_eq_true, List.append_nil, List.nil_append, List.cons_append, reduceIte, isi_ii, isi_ib, isi_bi, isi_bb, isi_tt, isi_tl, isi_ll, isi_lt, isi_ss, and_d, or_d, and_b, or_b, Bool.or_false, Bool.false_or, Bool.or_true, Bool.true_or, Bool.and_true, Bool.true_and, Bool.and_false, Bool.false_and, wipe_nil, wipe_cons, D_nat, D_int, Nat.reduceAdd, Nat.reduceLeDiff, lm_ok, add_t, add_of, add_ff, add_df, add_dd, add_od, add_fd, Int.cast_ofNat_Int, Int.natCast_zero, Int.natCast_one, Nat.zero_add, Nat.zero_le, a1, c1, cut_from, cut_to]
  rw [lm_ok (by simp; omega)]
  simp only [ap_sSeq, ap_sNil, ap_sRet, ap_sRetN, ap_sCt, ap_sBk, ap_sRaise, ap_sExp, ap_sAsg, putL_d, putL_fr, ap_sIf, ap_sFor, ap_sUnp, un1_ok, ap_sPar, par2_nx, ap_sApp, ap_sExt, ext2_fr, ext2_d, ap_onOwn, on1_own, ap_sSto, sto2_int, sto3_some, fz1_d, fz1_un, fz1_own, ap_fzE_nil, ap_fzE, sq_nx, sq_rt, sq_bk, sq_ct, sq_ex, sq_stuck, okb, exb, stb, ap_eC, vr_d, vr_own, ap_eVar, ap_eBin, ap_eUn, ap_aNil, ap_aCons, ap_eFz, fzL_d, fzL_fr, fz_d, fz_fr, rd_d, rd_fr, rd_own, allD_nil, allD_cons, ap_eTup, ap_eLst, ap_eCall, ap_eBi, boolL_d, ap_tVal, ap_tAn, ap_tOr, ap_tNt, ap_tTrue, ap_eIf, ap_eAn, ap_eOr, ap_eNt, ap_eChain, ap_okB, ap_okI, add_i, sub_i, mul_i, lt_i, le_i, gt_i, ge_i, bLen_t, bLen_l, bLen_f, bLen_o, bLen_s, bInt_i, bInt_b, bList_t, bList_l, bList_f, bList_o, bTuple_t, bTuple_l, bTuple_f, bTuple_o, bMax_2, bMin_2, ix1_some, ix_t, ix_l, ix_f, ix_o, ix_s, at_0, at_1, at_2, ap_oNone, o1_i, ap_oSome, ap_eSl, sl_t, sl_l, sl_f, sl_o, itL_t, itL_l, ap_iEx, ap_iEn, ap_iZp, zipL_t, zipL_l, ap_iR1, ap_iR2, int1_i, ap_gNm, ap_gTp, ap_gAll_nil, ap_gAll, semR_nx, semR_rt, List.getElem?_cons_zero, List.getElem?_cons_succ, List.set_cons_zero, List.set_cons_succ, List.length_cons, List.length_nil, if_true, if_false, Bool.not_true, Bool.not_false, Bool.false_eq_true, List.append_nil, List.nil_append, List.cons_append, reduceIte, isi_ii, isi_ib, isi_bi, isi_bb, isi_tt, isi_tl, isi_ll, isi_lt, isi_ss, and_d, or_d, and_b, or_b, Bool.or_false, Bool.false_or, Bool.or_true, Bool.true_or, Bool.and_true, Bool.true_and, Bool.and_false, Bool.false_and, wipe_nil, wipe_cons, D_nat, D_int, Nat.reduceAdd, Nat.reduceLeDiff, lm_ok, add_t, add_of, add_ff, add_df, add_dd, add_od, add_fd, Int.cast_ofNat_Int, Int.natCast_zero, Int.natCast_one, Nat.zero_add, Nat.zero_le]
  rw [lm_ok (by simp; omega)]
  simp only [ap_sSeq, ap_sNil, ap_sRet, ap_sRetN, ap_sCt, ap_sBk, ap_sRaise, ap_sExp, ap_sAsg, putL_d, putL_fr, ap_sIf, ap_sFor, ap_sUnp, un1_ok, ap_sPar, par2_nx, ap_sApp, ap_sExt, ext2_fr, ext2_d, ap_onOwn, on1_own, ap_sSto, sto2_int, sto3_some, fz1_d, fz1_un, fz1_own, ap_fzE_nil, ap_fzE, sq_nx, sq_rt, sq_bk, sq_ct, sq_ex, sq_stuck, okb, exb, stb, ap_eC, vr_d, vr_own, ap_eVar, ap_eBin, ap_eUn, ap_aNil, ap_aCons, ap_eFz, fzL_d, fzL_fr, fz_d, fz_fr, rd_d, rd_fr, rd_own, allD_nil, allD_cons, ap_eTup, ap_eLst, ap_eCall, ap_eBi, boolL_d, ap_tVal, ap_tAn, ap_tOr, ap_tNt, ap_tTrue, ap_eIf, ap_eAn, ap_eOr, ap_eNt, ap_eChain, ap_okB, ap_okI, add_i, sub_i, mul_i, lt_i, le_i, gt_i, ge_i, bLen_t, bLen_l, bLen_f, bLen_o, bLen_s, bInt_i, bInt_b, bList_t, bList_l, bList_f, bList_o, bTuple_t, bTuple_l, bTuple_f, bTuple_o, bMax_2, bMin_2, ix1_some, ix_t, ix_l, ix_f, ix_o, ix_s, at_0, at_1, at_2, ap_oNone, o1_i, ap_oSome, ap_eSl, sl_t, sl_l, sl_f, sl_o, itL_t, itL_l, ap_iEx, ap_iEn, ap_iZp, zipL_t, zipL_l, ap_iR1, ap_iR2, int1_i, ap_gNm, ap_gTp, ap_gAll_nil, ap_gAll, semR_nx, semR_rt, List.getElem?_cons_zero, List.getElem?_cons_succ, List.set_cons_zero, List.set_cons_succ, List.length_cons, List.length_nil, if_true, if_false, Bool.not_true, Bool.not_false, Bool.false_eq_true, List.append_nil, List.nil_append, List.cons_append, reduceIte, isi_ii, isi_ib, isi_bi, isi_bb, isi_tt, isi_tl, isi_ll, isi_lt, isi_ss, and_d, or_d, and_b, or_b, Bool.or_false, Bool.false_or, Bool.or_true, Bool.true_or, Bool.and_true, Bool.true_and, Bool.and_false, Bool.false_and, wipe_nil, wipe_cons, D_nat, D_int, Nat.reduceAdd, Nat.reduceLeDiff, lm_ok, add_t, add_of, add_ff, add_df, add_dd, add_od, add_fd, Int.cast_ofNat_Int, Int.natCast_zero, Int.natCast_one, Nat.zero_add, Nat.zero_le, set_parts W i (w + v) hi]
end
end L11
namespace L11
open PySem PySem.Spec PyProof.Rows L2 PD
/-! playing -/
def hit (x : Row) (p : Nat × Nat) : Int := if (x.a, x.b) = p then 1 else 0
def playR (R : List Row) (p : Nat × Nat) : List Row := R.filterMap fun x => if 0 < x.c - hit x p then some ⟨x.a, x.b, x.c - hit x p⟩ else none
def pr (w l : Nat) : Nat × Nat := (min w l, max w l)
structure Can (W : List Int) (R : List Row) (w l : Nat) : Prop where
  hw : w < W.length
  hl : l < W.length
  hx : ∃ v, W[w]? = some v ∧ v < 60
  hr : ∃ x ∈ R, (x.a, x.b) = pr w l
abbrev Pst := List Row × L × L
def pstep (p : Nat × Nat) (s : Pst) (x : Row) : Pst := (s.1 ++ (if 0 < x.c - hit x p then [⟨x.a, x.b, x.c - hit x p⟩] else []), .d (Dt.D x), .d (.int (x.c - hit x p)))
theorem pstep_fold (p : Nat × Nat) : ∀ (R : List Row) (s : Pst), (R.foldl (pstep p) s).1 = s.1 ++ playR R p
  | [], s => by simp [playR]
  | x :: R, s => by
    rw [List.foldl_cons, pstep_fold p R]
    unfold playR
    rw [List.filterMap_cons]
    by_cases h : 0 < x.c - hit x p
    · simp only [pstep, if_pos h, List.append_assoc]
      rfl
    · simp only [pstep, if_neg h, List.append_nil]
section
variable {W : List Int} {R : List Row} {w l : Nat}
theorem eq_pair (a b c d : Nat) : opEq false (.d (.tuple [.int (a : Int), .int (b : Int)])) (.d (.tuple [.int (c : Int), .int (d : Int)])) = .ok (.d (.bool (decide ((a, b) = (c, d))))) := eq_D (α := Nat × Nat) (a := (a, b)) (b := (c, d)) (by decide) rfl rfl
theorem e9 (h : Ok W R) (c : Can W R w l) {v : Int} (hv : W[w]? = some v) : s_played [lg W R, .int (w : Int), .int (l : Int)] = .ok (lg (W.set w (v + 1)) (playR R (pr w l))) := by
  have hp : (if (l : Int) < (w : Int) then (l : Int) else (w : Int)) = ((pr w l).1 : Nat) := by
    show _ = ((min w l : Nat) : Int)
    split <;> omega
  have hq : (if (l : Int) > (w : Int) then (l : Int) else (w : Int)) = ((pr w l).2 : Nat) := by
    show _ = ((max w l : Nat) : Int)
    split <;> omega
  generalize hpr : pr w l = p at hp hq
  have k0 (l1 l2 l3 l4 l5 l6 : L) : q_played_0 [L.d (lg W R), l1, l2, l3, l4, l5, l6] = .ok (.fr ((R.map fun x => (x.a, x.b)).map Dt.D)) := by
    rw [List.map_map]
    refine eLc_map (α := Row) (xs := R) Dt.D _ (by simp only [ap_sSeq, ap_sNil, ap_sRet, ap_sRetN, ap_sCt, ap_sBk, ap_sRaise, ap_sExp, ap_sAsg, putL_d, putL_fr, ap_sIf, ap_sFor, ap_sUnp, un1_ok, ap_sPar, par2_nx, ap_sApp, ap_sExt, ext2_fr, ext2_d, ap_onOwn, on1_own, ap_sSto, sto2_int, sto3_some, fz1_d, fz1_un, fz1_own, ap_fzE_nil, ap_fzE, sq_nx, sq_rt, sq_bk, sq_ct, sq_ex, sq_stuck, okb, exb, stb, ap_eC, vr_d, vr_own, ap_eVar, ap_eBin, ap_eUn, ap_aNil, ap_aCons, ap_eFz, fzL_d, fzL_fr, fz_d, fz_fr, rd_d, rd_fr, rd_own, allD_nil, allD_cons, ap_eTup, ap_eLst, ap_eCall, ap_eBi, boolL_d, ap_tVal, ap_tAn, ap_tOr, ap_tNt, ap_tTrue, ap_eIf, ap_eAn, ap_eOr, ap_eNt, ap_eChain, ap_okB, ap_okI, add_i, sub_i, mul_i, lt_i, le_i, gt_i, ge_i, bLen_t, bLen_l, bLen_f, bLen_o, bLen_s, bInt_i, bInt_b, bList_t, bList_l, bList_f, bList_o, bTuple_t, bTuple_l, bTuple_f, bTuple_o, bMax_2, bMin_2, ix1_some, ix_t, ix_l, ix_f, ix_o, ix_s, at_0, at_1, at_2, ap_oNone, o1_i, ap_oSome, ap_eSl, sl_t, sl_l, sl_f, sl_o, itL_t, itL_l, ap_iEx, ap_iEn, ap_iZp, zipL_t, zipL_l, ap_iR1, ap_iR2, int1_i, ap_gNm, ap_gTp, ap_gAll_nil, ap_gAll, semR_nx, semR_rt, List.getElem?_cons_zero, List.getElem?_cons_succ, List.set_cons_zero, List.set_cons_succ, List.length_cons, List.length_nil, if_true, if_false, Bool.not_true, Bool.not_false, Bool.false_eq_true, List.append_nil, List.nil_append, List.cons_append, reduceIte, isi_ii, isi_ib, isi_bi, isi_bb, isi_tt, isi_tl, isi_ll, isi_lt, isi_ss, and_d, or_d, and_b, or_b, Bool.or_false, Bool.false_or, Bool.or_true, Bool.true_or, Bool.and_true, Bool.true_and, Bool.and_false, Bool.false_and, wipe_nil, wipe_cons, D_nat, D_int, Nat.reduceAdd, Nat.reduceLeDiff, lm_ok, add_t, add_of, add_ff, add_df, add_dd, add_od, add_fd, Int.cast_ofNat_Int, Int.natCast_zero, Int.natCast_one, Nat.zero_add, Nat.zero_le]) rfl (by have := h.l; simp only [cap]; omega) fun y hx => ⟨_, rfl, ?_⟩
    simp only [ap_sSeq, ap_sNil, ap_sRet, ap_sRetN, ap_sCt, ap_sBk, ap_sRaise, ap_sExp, ap_sAsg, putL_d, putL_fr, ap_sIf, ap_sFor, ap_sUnp, un1_ok, ap_sPar, par2_nx, ap_sApp, ap_sExt, ext2_fr, ext2_d, ap_onOwn, on1_own, ap_sSto, sto2_int, sto3_some, fz1_d, fz1_un, fz1_own, ap_fzE_nil, ap_fzE, sq_nx, sq_rt, sq_bk, sq_ct, sq_ex, sq_stuck, okb, exb, stb, ap_eC, vr_d, vr_own, ap_eVar, ap_eBin, ap_eUn, ap_aNil, ap_aCons, ap_eFz, fzL_d, fzL_fr, fz_d, fz_fr, rd_d, rd_fr, rd_own, allD_nil, allD_cons, ap_eTup, ap_eLst, ap_eCall, ap_eBi, boolL_d, ap_tVal, ap_tAn, ap_tOr, ap_tNt, ap_tTrue, ap_eIf, ap_eAn, ap_eOr, ap_eNt, ap_eChain, ap_okB, ap_okI, add_i, sub_i, mul_i, lt_i, le_i, gt_i, ge_i, bLen_t, bLen_l, bLen_f, bLen_o, bLen_s, bInt_i, bInt_b, bList_t, bList_l, bList_f, bList_o, bTuple_t, bTuple_l, bTuple_f, bTuple_o, bMax_2, bMin_2, ix1_some, ix_t, ix_l, ix_f, ix_o, ix_s, at_0, at_1, at_2, ap_oNone, o1_i, ap_oSome, ap_eSl, sl_t, sl_l, sl_f, sl_o, itL_t, itL_l, ap_iEx, ap_iEn, ap_iZp, zipL_t, zipL_l, ap_iR1, ap_iR2, int1_i, ap_gNm, ap_gTp, ap_gAll_nil, ap_gAll, semR_nx, semR_rt, List.getElem?_cons_zero, List.getElem?_cons_succ, List.set_cons_zero, List.set_cons_succ, List.length_cons, List.length_nil, if_true, if_false, Bool.not_true, Bool.not_false, Bool.false_eq_true, List.append_nil, List.nil_append, List.cons_append, reduceIte, isi_ii, isi_ib, isi_bi, isi_bb, isi_tt, isi_tl, isi_ll, isi_lt, isi_ss, and_d, or_d, and_b, or_b, Bool.or_false, Bool.false_or, Bool.or_true, Bool.true_or, Bool.and_true, Bool.true_and, Bool.and_false, Bool.false_and, wipe_nil, wipe_cons, D_nat, D_int, Nat.reduceAdd, Nat.reduceLeDiff, lm_ok, add_t, add_of, add_ff, add_df, add_dd, add_od, add_fd, Int.cast_ofNat_Int, Int.natCast_zero, Int.natCast_one, Nat.zero_add, Nat.zero_le, Dr, cut2]
    rfl
  have m0 : opIn true (.d (.tuple [.int (p.1 : Int), .int (p.2 : Int)])) (.fr ((R.map fun x => (x.a, x.b)).map Dt.D)) = .ok (.d (.bool false)) := by
    obtain ⟨x, hx, e⟩ := c.hr
    rw [hpr] at e
    exact notin_mem (α := Nat × Nat) (a := (p.1, p.2)) (ys := R.map fun x => (x.a, x.b)) (by decide) rfl rfl (List.mem_map.mpr ⟨x, hx, e⟩)
  have m1 : atI (W.map PyData.int) (w : Int) = some (.int v) := at_nat (by rw [List.getElem?_map, hv]; rfl)
  have m2 : opEq false (.d (.int v)) (.d (.int 60)) = .ok (.d (.bool false)) := by
    rw [eq_D (α := Int) (a := v) (b := 60) (by decide) rfl rfl]
    obtain ⟨v', e, hl⟩ := c.hx
    rw [hv] at e
    cases e
    rw [decide_eq_false (by omega)]
  have lp := forGo_T (α := Row) (σ := Pst) (g := gNm 5) (body := b_played_1) Dt.D
    (fun s => [L.d (lg W R), .d (.int (w : Int)), .d (.int (l : Int)), .d (.tuple [.int (p.1 : Int), .int (p.2 : Int)]), .own (s.1.map Dt.D), s.2.1, s.2.2]) (pstep p) (fun i s => s.1.length ≤ i) (xs := R) (n := 0) (s := ([], .un, .un)) (Nat.le_refl _) fun i s x hx hi => by
      have hi2 := (List.getElem?_eq_some_iff.mp hx).1
      have hl := h.l
      refine ⟨_, rfl, .inl ?_, ?_⟩
      · rw [b_played_1]
        have e3 : opEq false (.d (.tuple [.int (x.a : Int), .int (x.b : Int)])) (.d (.tuple [.int (p.1 : Int), .int (p.2 : Int)])) = .ok (.d (.bool (decide ((x.a, x.b) = p)))) := eq_pair _ _ _ _
        have e4 : (if decide ((x.a, x.b) = p) = true then (1 : Int) else 0) = hit x p := by
          unfold hit
          by_cases q : (x.a, x.b) = p
          · rw [if_pos q, decide_eq_true q, if_pos rfl]
          · rw [if_neg q, decide_eq_false q, if_neg (by decide)]
        simp only [ap_sSeq, ap_sNil, ap_sRet, ap_sRetN, ap_sCt, ap_sBk, ap_sRaise, ap_sExp, ap_sAsg, putL_d, putL_fr, ap_sIf, ap_sFor, ap_sUnp, un1_ok, ap_sPar, par2_nx, ap_sApp, ap_sExt, ext2_fr, ext2_d, ap_onOwn, on1_own, ap_sSto, sto2_int, sto3_some, fz1_d, fz1_un, fz1_own, ap_fzE_nil, ap_fzE, sq_nx, sq_rt, sq_bk, sq_ct, sq_ex, sq_stuck, okb, exb, stb, ap_eC, vr_d, vr_own, ap_eVar, ap_eBin, ap_eUn, ap_aNil, ap_aCons, ap_eFz, fzL_d, fzL_fr, fz_d, fz_fr, rd_d, rd_fr, rd_own, allD_nil, allD_cons, ap_eTup, ap_eLst, ap_eCall, ap_eBi, boolL_d, ap_tVal, ap_tAn, ap_tOr, ap_tNt, ap_tTrue, ap_eIf, ap_eAn, ap_eOr, ap_eNt, ap_eChain, ap_okB, ap_okI, add_i, sub_i, mul_i, lt_i, le_i, gt_i, ge_i, bLen_t, bLen_l, bLen_f, bLen_o, bLen_s, bInt_i, bInt_b, bList_t, bList_l, bList_f, bList_o, bTuple_t, bTuple_l, bTuple_f, bTuple_o, bMax_2, bMin_2, ix1_some, ix_t, ix_l, ix_f, ix_o, ix_s, at_0, at_1, at_2, ap_oNone, o1_i, ap_oSome, ap_eSl, sl_t, sl_l, sl_f, sl_o, itL_t, itL_l, ap_iEx, ap_iEn, ap_iZp, zipL_t, zipL_l, ap_iR1, ap_iR2, int1_i, ap_gNm, ap_gTp, ap_gAll_nil, ap_gAll, semR_nx, semR_rt, List.getElem?_cons_zero, List.getElem?_cons_succ, List.set_cons_zero, List.set_cons_succ, List.length_cons, List.length_nil, if_true, if_false, Bool.not_true, Bool.not_false, Bool.false_eq_true, List.append_nil, List.nil_append, List.cons_append, reduceIte, isi_ii, isi_ib, isi_bi, isi_bb, isi_tt, isi_tl, isi_ll, isi_lt, isi_ss, and_d, or_d, and_b, or_b, Bool.or_false, Bool.false_or, Bool.or_true, Bool.true_or, Bool.and_true, Bool.true_and, Bool.and_false, Bool.false_and, wipe_nil, wipe_cons, D_nat, D_int, Nat.reduceAdd, Nat.reduceLeDiff, lm_ok, add_t, add_of, add_ff, add_df, add_dd, add_od, add_fd, Int.cast_ofNat_Int, Int.natCast_zero, Int.natCast_one, Nat.zero_add, Nat.zero_le, Dr, cut2, e3, e4]
        by_cases q : 0 < x.c - hit x p
        · simp only [ap_sSeq, ap_sNil, ap_sRet, ap_sRetN, ap_sCt, ap_sBk, ap_sRaise, ap_sExp, ap_sAsg, putL_d, putL_fr, ap_sIf, ap_sFor, ap_sUnp, un1_ok, ap_sPar, par2_nx, ap_sApp, ap_sExt, ext2_fr, ext2_d, ap_onOwn, on1_own, ap_sSto, sto2_int, sto3_some, fz1_d, fz1_un, fz1_own, ap_fzE_nil, ap_fzE, sq_nx, sq_rt, sq_bk, sq_ct, sq_ex, sq_stuck, okb, exb, stb, ap_eC, vr_d, vr_own, ap_eVar, ap_eBin, ap_eUn, ap_aNil, ap_aCons, ap_eFz, fzL_d, fzL_fr, fz_d, fz_fr, rd_d, rd_fr, rd_own, allD_nil, allD_cons, ap_eTup, ap_eLst, ap_eCall, ap_eBi, boolL_d, ap_tVal, ap_tAn, ap_tOr, ap_tNt, ap_tTrue, ap_eIf, ap_eAn, ap_eOr, ap_eNt, ap_eChain, ap_okB, ap_okI, add_i, sub_i, mul_i, lt_i, le_i, gt_i, ge_i, bLen_t, bLen_l, bLen_f, bLen_o, bLen_s, bInt_i, bInt_b, bList_t, bList_l, bList_f, bList_o, bTuple_t, bTuple_l, bTuple_f, bTuple_o, bMax_2, bMin_2, ix1_some, ix_t, ix_l, ix_f, ix_o, ix_s, at_0, at_1, at_2, ap_oNone, o1_i, ap_oSome, ap_eSl, sl_t, sl_l, sl_f, sl_o, itL_t, itL_l, ap_iEx, ap_iEn, ap_iZp, zipL_t, zipL_l, ap_iR1, ap_iR2, int1_i, ap_gNm, ap_gTp, ap_gAll_nil, ap_gAll, semR_nx, semR_rt, List.getElem?_cons_zero, List.getElem?_cons_succ, List.set_cons_zero, List.set_cons_succ, List.length_cons, List.length_nil, if_true, if_false, Bool.not_true, Bool.not_false, Bool.false_eq_true, List.append_nil, List.nil_append, List.cons_append, reduceIte, isi_ii, isi_ib, isi_bi, isi_bb, isi_tt, isi_tl, isi_ll, isi_lt, isi_ss, and_d, or_d, and_b, or_b, Bool.or_false, Bool.false_or, Bool.or_true, Bool.true_or, Bool.and_true, Bool.true_and, Bool.and_false, Bool.false_and, wipe_nil, wipe_cons, D_nat, D_int, Nat.reduceAdd, Nat.reduceLeDiff, lm_ok, add_t, add_of, add_ff, add_df, add_dd, add_od, add_fd, Int.cast_ofNat_Int, Int.natCast_zero, Int.natCast_one, Nat.zero_add, Nat.zero_le, q, decide_true, Dr, cut2, List.length_map, lm_ok (show s.1.length + 1 ≤ 100000 by omega), pstep]
          simp only [if_pos q, List.map_append]
          rfl
        · simp only [ap_sSeq, ap_sNil, ap_sRet, ap_sRetN, ap_sCt, ap_sBk, ap_sRaise, ap_sExp, ap_sAsg, putL_d, putL_fr, ap_sIf, ap_sFor, ap_sUnp, un1_ok, ap_sPar, par2_nx, ap_sApp, ap_sExt, ext2_fr, ext2_d, ap_onOwn, on1_own, ap_sSto, sto2_int, sto3_some, fz1_d, fz1_un, fz1_own, ap_fzE_nil, ap_fzE, sq_nx, sq_rt, sq_bk, sq_ct, sq_ex, sq_stuck, okb, exb, stb, ap_eC, vr_d, vr_own, ap_eVar, ap_eBin, ap_eUn, ap_aNil, ap_aCons, ap_eFz, fzL_d, fzL_fr, fz_d, fz_fr, rd_d, rd_fr, rd_own, allD_nil, allD_cons, ap_eTup, ap_eLst, ap_eCall, ap_eBi, boolL_d, ap_tVal, ap_tAn, ap_tOr, ap_tNt, ap_tTrue, ap_eIf, ap_eAn, ap_eOr, ap_eNt, ap_eChain, ap_okB, ap_okI, add_i, sub_i, mul_i, lt_i, le_i, gt_i, ge_i, bLen_t, bLen_l, bLen_f, bLen_o, bLen_s, bInt_i, bInt_b, bList_t, bList_l, bList_f, bList_o, bTuple_t, bTuple_l, bTuple_f, bTuple_o, bMax_2, bMin_2, ix1_some, ix_t, ix_l, ix_f, ix_o, ix_s, at_0, at_1, at_2, ap_oNone, o1_i, ap_oSome, ap_eSl, sl_t, sl_l, sl_f, sl_o, itL_t, itL_l, ap_iEx, ap_iEn, ap_iZp, zipL_t, zipL_l, ap_iR1, ap_iR2, int1_i, ap_gNm, ap_gTp, ap_gAll_nil, ap_gAll, semR_nx, semR_rt, List.getElem?_cons_zero, List.getElem?_cons_succ, List.set_cons_zero, List.set_cons_succ, List.length_cons, List.length_nil, if_true, if_false, Bool.not_true, Bool.not_false, Bool.false_eq_true, List.append_nil, List.nil_append, List.cons_append, reduceIte, isi_ii, isi_ib, isi_bi, isi_bb, isi_tt, isi_tl, isi_ll, isi_lt, isi_ss, and_d, or_d, and_b, or_b, Bool.or_false, Bool.false_or, Bool.or_true, Bool.true_or, Bool.and_true, Bool.true_and, Bool.and_false, Bool.false_and, wipe_nil, wipe_cons, D_nat, D_int, Nat.reduceAdd, Nat.reduceLeDiff, lm_ok, add_t, add_of, add_ff, add_df, add_dd, add_od, add_fd, Int.cast_ofNat_Int, Int.natCast_zero, Int.natCast_one, Nat.zero_add, Nat.zero_le, q, decide_false, pstep, Dr]
      · unfold pstep
        rw [List.length_append]
        split
        · simp; omega
        · simp; omega
  have lp := lp.1
  rw [e_played, f_played]
  simp only [ap_sSeq, ap_sNil, ap_sRet, ap_sRetN, ap_sCt, ap_sBk, ap_sRaise, ap_sExp, ap_sAsg, putL_d, putL_fr, ap_sIf, ap_sFor, ap_sUnp, un1_ok, ap_sPar, par2_nx, ap_sApp, ap_sExt, ext2_fr, ext2_d, ap_onOwn, on1_own, ap_sSto, sto2_int, sto3_some, fz1_d, fz1_un, fz1_own, ap_fzE_nil, ap_fzE, sq_nx, sq_rt, sq_bk, sq_ct, sq_ex, sq_stuck, okb, exb, stb, ap_eC, vr_d, vr_own, ap_eVar, ap_eBin, ap_eUn, ap_aNil, ap_aCons, ap_eFz, fzL_d, fzL_fr, fz_d, fz_fr, rd_d, rd_fr, rd_own, allD_nil, allD_cons, ap_eTup, ap_eLst, ap_eCall, ap_eBi, boolL_d, ap_tVal, ap_tAn, ap_tOr, ap_tNt, ap_tTrue, ap_eIf, ap_eAn, ap_eOr, ap_eNt, ap_eChain, ap_okB, ap_okI, add_i, sub_i, mul_i, lt_i, le_i, gt_i, ge_i, bLen_t, bLen_l, bLen_f, bLen_o, bLen_s, bInt_i, bInt_b, bList_t, bList_l, bList_f, bList_o, bTuple_t, bTuple_l, bTuple_f, bTuple_o, bMax_2, bMin_2, ix1_some, ix_t, ix_l, ix_f, ix_o, ix_s, at_0, at_1, at_2, ap_oNone, o1_i, ap_oSome, ap_eSl, sl_t, sl_l, sl_f, sl_o, itL_t, itL_l, ap_iEx, ap_iEn, ap_iZp, zipL_t, zipL_l, ap_iR1, ap_iR2, int1_i, ap_gNm, ap_gTp, ap_gAll_nil, ap_gAll, semR_nx, semR_rt, List.getElem?_cons_zero, List.getElem?_cons_succ, List.set_cons_zero, List.set_cons_succ, List.length_cons, List.length_nil, if_true, if_false, Bool.not_true, Bool.not_false, Bool.false_eq_true, List.append_nil, List.nil_append, List.cons_append, reduceIte, isi_ii, isi_ib, isi_bi, isi_bb, isi_tt, isi_tl, isi_ll, isi_lt, isi_ss, and_d, or_d, and_b, or_b, Bool.or_false, Bool.false_or, Bool.or_true, Bool.true_or, Bool.and_true, Bool.true_and, Bool.and_false, Bool.false_and, wipe_nil, wipe_cons, D_nat, D_int, Nat.reduceAdd, Nat.reduceLeDiff, lm_ok, add_t, add_of, add_ff, add_df, add_dd, add_od, add_fd, Int.cast_ofNat_Int, Int.natCast_zero, Int.natCast_one, Nat.zero_add, Nat.zero_le, e4 h, e4s c.hw, e4s c.hl, hp, hq, k0, m0, m1, m2]
  have lp2 := lp
  simp only [List.map_nil] at lp2
  simp only [ap_sSeq, ap_sNil, ap_sRet, ap_sRetN, ap_sCt, ap_sBk, ap_sRaise, ap_sExp, ap_sAsg, putL_d, putL_fr, ap_sIf, ap_sFor, ap_sUnp, un1_ok, ap_sPar, par2_nx, ap_sApp, ap_sExt, ext2_fr, ext2_d, ap_onOwn, on1_own, ap_sSto, sto2_int, sto3_some, fz1_d, fz1_un, fz1_own, ap_fzE_nil, ap_fzE, sq_nx, sq_rt, sq_bk, sq_ct, sq_ex, sq_stuck, okb, exb, stb, ap_eC, vr_d, vr_own, ap_eVar, ap_eBin, ap_eUn, ap_aNil, ap_aCons, ap_eFz, fzL_d, fzL_fr, fz_d, fz_fr, rd_d, rd_fr, rd_own, allD_nil, allD_cons, ap_eTup, ap_eLst, ap_eCall, ap_eBi, boolL_d, ap_tVal, ap_tAn, ap_tOr, ap_tNt, ap_tTrue, ap_eIf, ap_eAn, ap_eOr, ap_eNt, ap_eChain, ap_okB, ap_okI, add_i, sub_i, mul_i, lt_i, le_i, gt_i, ge_i, bLen_t, bLen_l, bLen_f, bLen_o, bLen_s, bInt_i, bInt_b, bList_t, bList_l, bList_f, bList_o, bTuple_t, bTuple_l, bTuple_f, bTuple_o, bMax_2, bMin_2, ix1_some, ix_t, ix_l, ix_f, ix_o, ix_s, at_0, at_1, at_2, ap_oNone, o1_i, ap_oSome, ap_eSl, sl_t, sl_l, sl_f, sl_o, itL_t, itL_l, ap_iEx, ap_iEn, ap_iZp, zipL_t, zipL_l, ap_iR1, ap_iR2, int1_i, ap_gNm, ap_gTp, ap_gAll_nil, ap_gAll, semR_nx, semR_rt, List.getElem?_cons_zero, List.getElem?_cons_succ, List.set_cons_zero, List.set_cons_succ, List.length_cons, List.length_nil, if_true, if_false, Bool.not_true, Bool.not_false, Bool.false_eq_true, List.append_nil, List.nil_append, List.cons_append, reduceIte, isi_ii, isi_ib, isi_bi, isi_bb, isi_tt, isi_tl, isi_ll, isi_lt, isi_ss, and_d, or_d, and_b, or_b, Bool.or_false, Bool.false_or, Bool.or_true, Bool.true_or, Bool.and_true, Bool.true_and, Bool.and_false, Bool.false_and, wipe_nil, wipe_cons, D_nat, D_int, Nat.reduceAdd, Nat.reduceLeDiff, lm_ok, add_t, add_of, add_ff, add_df, add_dd, add_od, add_fd, Int.cast_ofNat_Int, Int.natCast_zero, Int.natCast_one, Nat.zero_add, Nat.zero_le, lp2, e8 hv (by have := h.n6; omega)]
  rw [pstep_fold, List.nil_append]
end
end L11
namespace L11
open PySem PySem.Spec PyProof.Rows L2 PD
def addAt (W : List Int) (i : Nat) (v : Int) : List Int := W.set i (W.getD i 0 + v)
theorem addAt_len (W : List Int) (i : Nat) (v : Int) : (addAt W i v).length = W.length := by
  unfold addAt
  rw [List.length_set]
theorem getD_some {W : List Int} {i : Nat} (h : i < W.length) : W[i]? = some (W.getD i 0) := by
  rw [List.getD_eq_getElem?_getD, List.getElem?_eq_getElem h]
  rfl
theorem e8' {W : List Int} {i : Nat} {v : Int} (h : i < W.length) (hl : W.length ≤ 100) : s_with_wins [.tuple (W.map .int), .int (i : Int), .int v] = .ok (.tuple ((addAt W i v).map .int)) := e8 (getD_some h) hl
section
variable {W : List Int} {R : List Row} {w l : Nat}
theorem e9' (h : Ok W R) (c : Can W R w l) : s_played [lg W R, .int (w : Int), .int (l : Int)] = .ok (lg (addAt W w 1) (playR R (pr w l))) := e9 h c (getD_some c.hw)
/-! ended -/
def endS (W : List Int) (p : Row × Int) : List Int := addAt (addAt W p.1.a p.2) p.1.b (p.1.c - p.2)
theorem endS_len (W : List Int) (p : Row × Int) : (endS W p).length = W.length := by
  unfold endS
  rw [addAt_len, addAt_len]
abbrev Est := List Int × L × L × L × L
theorem fold_fst {α β γ : Type} (f : β × γ → α → β × γ) (g : β → α → β) (h : ∀ s x, (f s x).1 = g s.1 x) : ∀ (xs : List α) (s : β × γ), (xs.foldl f s).1 = xs.foldl g s.1
  | [], _ => rfl
  | x :: xs, s => by rw [List.foldl_cons, List.foldl_cons, fold_fst f g h xs, h]
theorem e10 (h : Ok W R) {fs : List Int} (hl : fs.length = R.length) : s_ended_of [lg W R, .tuple (fs.map .int)] = .ok (.tuple (((R.zip fs).foldl endS W).map .int)) := by
  have lp := forGo_T (α := Row × Int) (σ := Est) (g := gTp [(gTp [(gNm 4), (gNm 5), (gNm 6)]), (gNm 3)]) (body := b_ended_of_0) (fun p => .tuple [Dt.D p.1, .int p.2])
    (fun s => [L.d (lg W R), .d (.tuple (fs.map .int)), .d (.tuple (s.1.map .int)), s.2.1, s.2.2.1, s.2.2.2.1, s.2.2.2.2])
    (fun s p => (endS s.1 p, .d (.int p.2), .d (.int (p.1.a : Int)), .d (.int (p.1.b : Int)), .d (.int p.1.c))) (fun i s => s.1.length = W.length) (xs := R.zip fs) (n := 0) (s := (W, .un, .un, .un, .un)) rfl fun i s p hp hs => by
      have hm : p.1 ∈ R := (List.of_mem_zip (List.mem_of_getElem? hp)).1
      obtain ⟨h1, h2, h3, h4⟩ := h.r _ hm
      have h6 := h.n6
      refine ⟨_, rfl, .inl ?_, by rw [endS_len]; exact hs⟩
      rw [b_ended_of_0]
      simp only [ap_sSeq, ap_sNil, ap_sRet, ap_sRetN, ap_sCt, ap_sBk, ap_sRaise, ap_sExp, ap_sAsg, putL_d, putL_fr, ap_sIf, ap_sFor, ap_sUnp, un1_ok, ap_sPar, par2_nx, ap_sApp, ap_sExt, ext2_fr, ext2_d, ap_onOwn, on1_own, ap_sSto, sto2_int, sto3_some, fz1_d, fz1_un, fz1_own, ap_fzE_nil, ap_fzE, sq_nx, sq_rt, sq_bk, sq_ct, sq_ex, sq_stuck, okb, exb, stb, ap_eC, vr_d, vr_own, ap_eVar, ap_eBin, ap_eUn, ap_aNil, ap_aCons, ap_eFz, fzL_d, fzL_fr, fz_d, fz_fr, rd_d, rd_fr, rd_own, allD_nil, allD_cons, ap_eTup, ap_eLst, ap_eCall, ap_eBi, boolL_d, ap_tVal, ap_tAn, ap_tOr, ap_tNt, ap_tTrue, ap_eIf, ap_eAn, ap_eOr, ap_eNt, ap_eChain, ap_okB, ap_okI, add_i, sub_i, mul_i, lt_i, le_i, gt_i, ge_i, bLen_t, bLen_l, bLen_f, bLen_o, bLen_s, bInt_i, bInt_b, bList_t, bList_l, bList_f, bList_o, bTuple_t, bTuple_l, bTuple_f, bTuple_o, bMax_2, bMin_2, ix1_some, ix_t, ix_l, ix_f, ix_o, ix_s, at_0, at_1, at_2, ap_oNone, o1_i, ap_oSome, ap_eSl, sl_t, sl_l, sl_f, sl_o, itL_t, itL_l, ap_iEx, ap_iEn, ap_iZp, zipL_t, zipL_l, ap_iR1, ap_iR2, int1_i, ap_gNm, ap_gTp, ap_gAll_nil, ap_gAll, semR_nx, semR_rt, List.getElem?_cons_zero, List.getElem?_cons_succ, List.set_cons_zero, List.set_cons_succ, List.length_cons, List.length_nil, if_true, if_false, Bool.not_true, Bool.not_false, Bool.false_eq_true, List.append_nil, List.nil_append, List.cons_append, reduceIte, isi_ii, isi_ib, isi_bi, isi_bb, isi_tt, isi_tl, isi_ll, isi_lt, isi_ss, and_d, or_d, and_b, or_b, Bool.or_false, Bool.false_or, Bool.or_true, Bool.true_or, Bool.and_true, Bool.true_and, Bool.and_false, Bool.false_and, wipe_nil, wipe_cons, D_nat, D_int, Nat.reduceAdd, Nat.reduceLeDiff, lm_ok, add_t, add_of, add_ff, add_df, add_dd, add_od, add_fd, Int.cast_ofNat_Int, Int.natCast_zero, Int.natCast_one, Nat.zero_add, Nat.zero_le, e8' (W := s.1) (i := p.1.a) (v := p.2) (by omega) (by omega), e8' (W := addAt s.1 p.1.a p.2) (i := p.1.b) (v := p.1.c - p.2) (by rw [addAt_len]; omega) (by rw [addAt_len]; omega)]
      rfl
  have lp2 := lp.1
  rw [e_ended_of, f_ended_of]
  simp only [ap_sSeq, ap_sNil, ap_sRet, ap_sRetN, ap_sCt, ap_sBk, ap_sRaise, ap_sExp, ap_sAsg, putL_d, putL_fr, ap_sIf, ap_sFor, ap_sUnp, un1_ok, ap_sPar, par2_nx, ap_sApp, ap_sExt, ext2_fr, ext2_d, ap_onOwn, on1_own, ap_sSto, sto2_int, sto3_some, fz1_d, fz1_un, fz1_own, ap_fzE_nil, ap_fzE, sq_nx, sq_rt, sq_bk, sq_ct, sq_ex, sq_stuck, okb, exb, stb, ap_eC, vr_d, vr_own, ap_eVar, ap_eBin, ap_eUn, ap_aNil, ap_aCons, ap_eFz, fzL_d, fzL_fr, fz_d, fz_fr, rd_d, rd_fr, rd_own, allD_nil, allD_cons, ap_eTup, ap_eLst, ap_eCall, ap_eBi, boolL_d, ap_tVal, ap_tAn, ap_tOr, ap_tNt, ap_tTrue, ap_eIf, ap_eAn, ap_eOr, ap_eNt, ap_eChain, ap_okB, ap_okI, add_i, sub_i, mul_i, lt_i, le_i, gt_i, ge_i, bLen_t, bLen_l, bLen_f, bLen_o, bLen_s, bInt_i, bInt_b, bList_t, bList_l, bList_f, bList_o, bTuple_t, bTuple_l, bTuple_f, bTuple_o, bMax_2, bMin_2, ix1_some, ix_t, ix_l, ix_f, ix_o, ix_s, at_0, at_1, at_2, ap_oNone, o1_i, ap_oSome, ap_eSl, sl_t, sl_l, sl_f, sl_o, itL_t, itL_l, ap_iEx, ap_iEn, ap_iZp, zipL_t, zipL_l, ap_iR1, ap_iR2, int1_i, ap_gNm, ap_gTp, ap_gAll_nil, ap_gAll, semR_nx, semR_rt, List.getElem?_cons_zero, List.getElem?_cons_succ, List.set_cons_zero, List.set_cons_succ, List.length_cons, List.length_nil, if_true, if_false, Bool.not_true, Bool.not_false, Bool.false_eq_true, List.append_nil, List.nil_append, List.cons_append, reduceIte, isi_ii, isi_ib, isi_bi, isi_bb, isi_tt, isi_tl, isi_ll, isi_lt, isi_ss, and_d, or_d, and_b, or_b, Bool.or_false, Bool.false_or, Bool.or_true, Bool.true_or, Bool.and_true, Bool.true_and, Bool.and_false, Bool.false_and, wipe_nil, wipe_cons, D_nat, D_int, Nat.reduceAdd, Nat.reduceLeDiff, lm_ok, add_t, add_of, add_ff, add_df, add_dd, add_od, add_fd, Int.cast_ofNat_Int, Int.natCast_zero, Int.natCast_one, Nat.zero_add, Nat.zero_le, zipD_map, lp2]
  rw [fold_fst _ endS fun s x => rfl]
theorem e11 {fs : List Int} (h : R.length ≤ 100) (hl : fs.length = R.length) (hf : ∀ p ∈ R.zip fs, 0 ≤ p.2 ∧ p.2 ≤ p.1.c) : s_is_season [lg W R, .tuple (fs.map .int)] = .ok (.bool true) := by
  have k (l2 l3 : L) : q_is_season_0 [L.d (lg W R), L.d (.tuple (fs.map .int)), l2, l3] = .ok (.fr ((R.zip fs).map fun _ => .bool true)) := by
    refine eLc_map (α := Row × Int) (xs := R.zip fs) (fun p => .tuple [Dt.D p.1, .int p.2]) (fun _ => .bool true) (by simp only [ap_sSeq, ap_sNil, ap_sRet, ap_sRetN, ap_sCt, ap_sBk, ap_sRaise, ap_sExp, ap_sAsg, putL_d, putL_fr, ap_sIf, ap_sFor, ap_sUnp, un1_ok, ap_sPar, par2_nx, ap_sApp, ap_sExt, ext2_fr, ext2_d, ap_onOwn, on1_own, ap_sSto, sto2_int, sto3_some, fz1_d, fz1_un, fz1_own, ap_fzE_nil, ap_fzE, sq_nx, sq_rt, sq_bk, sq_ct, sq_ex, sq_stuck, okb, exb, stb, ap_eC, vr_d, vr_own, ap_eVar, ap_eBin, ap_eUn, ap_aNil, ap_aCons, ap_eFz, fzL_d, fzL_fr, fz_d, fz_fr, rd_d, rd_fr, rd_own, allD_nil, allD_cons, ap_eTup, ap_eLst, ap_eCall, ap_eBi, boolL_d, ap_tVal, ap_tAn, ap_tOr, ap_tNt, ap_tTrue, ap_eIf, ap_eAn, ap_eOr, ap_eNt, ap_eChain, ap_okB, ap_okI, add_i, sub_i, mul_i, lt_i, le_i, gt_i, ge_i, bLen_t, bLen_l, bLen_f, bLen_o, bLen_s, bInt_i, bInt_b, bList_t, bList_l, bList_f, bList_o, bTuple_t, bTuple_l, bTuple_f, bTuple_o, bMax_2, bMin_2, ix1_some, ix_t, ix_l, ix_f, ix_o, ix_s, at_0, at_1, at_2, ap_oNone, o1_i, ap_oSome, ap_eSl, sl_t, sl_l, sl_f, sl_o, itL_t, itL_l, ap_iEx, ap_iEn, ap_iZp, zipL_t, zipL_l, ap_iR1, ap_iR2, int1_i, ap_gNm, ap_gTp, ap_gAll_nil, ap_gAll, semR_nx, semR_rt, List.getElem?_cons_zero, List.getElem?_cons_succ, List.set_cons_zero, List.set_cons_succ, List.length_cons, List.length_nil, if_true, if_false, Bool.not_true, Bool.not_false, Bool.false_eq_true, List.append_nil, List.nil_append, List.cons_append, reduceIte, isi_ii, isi_ib, isi_bi, isi_bb, isi_tt, isi_tl, isi_ll, isi_lt, isi_ss, and_d, or_d, and_b, or_b, Bool.or_false, Bool.false_or, Bool.or_true, Bool.true_or, Bool.and_true, Bool.true_and, Bool.and_false, Bool.false_and, wipe_nil, wipe_cons, D_nat, D_int, Nat.reduceAdd, Nat.reduceLeDiff, lm_ok, add_t, add_of, add_ff, add_df, add_dd, add_od, add_fd, Int.cast_ofNat_Int, Int.natCast_zero, Int.natCast_one, Nat.zero_add, Nat.zero_le]) (zipD_map _ _ _ _) (by simp only [cap, List.length_zip]; omega) fun y hx => ⟨_, rfl, ?_⟩
    obtain ⟨a, b⟩ := hf y hx
    simp only [ap_sSeq, ap_sNil, ap_sRet, ap_sRetN, ap_sCt, ap_sBk, ap_sRaise, ap_sExp, ap_sAsg, putL_d, putL_fr, ap_sIf, ap_sFor, ap_sUnp, un1_ok, ap_sPar, par2_nx, ap_sApp, ap_sExt, ext2_fr, ext2_d, ap_onOwn, on1_own, ap_sSto, sto2_int, sto3_some, fz1_d, fz1_un, fz1_own, ap_fzE_nil, ap_fzE, sq_nx, sq_rt, sq_bk, sq_ct, sq_ex, sq_stuck, okb, exb, stb, ap_eC, vr_d, vr_own, ap_eVar, ap_eBin, ap_eUn, ap_aNil, ap_aCons, ap_eFz, fzL_d, fzL_fr, fz_d, fz_fr, rd_d, rd_fr, rd_own, allD_nil, allD_cons, ap_eTup, ap_eLst, ap_eCall, ap_eBi, boolL_d, ap_tVal, ap_tAn, ap_tOr, ap_tNt, ap_tTrue, ap_eIf, ap_eAn, ap_eOr, ap_eNt, ap_eChain, ap_okB, ap_okI, add_i, sub_i, mul_i, lt_i, le_i, gt_i, ge_i, bLen_t, bLen_l, bLen_f, bLen_o, bLen_s, bInt_i, bInt_b, bList_t, bList_l, bList_f, bList_o, bTuple_t, bTuple_l, bTuple_f, bTuple_o, bMax_2, bMin_2, ix1_some, ix_t, ix_l, ix_f, ix_o, ix_s, at_0, at_1, at_2, ap_oNone, o1_i, ap_oSome, ap_eSl, sl_t, sl_l, sl_f, sl_o, itL_t, itL_l, ap_iEx, ap_iEn, ap_iZp, zipL_t, zipL_l, ap_iR1, ap_iR2, int1_i, ap_gNm, ap_gTp, ap_gAll_nil, ap_gAll, semR_nx, semR_rt, List.getElem?_cons_zero, List.getElem?_cons_succ, List.set_cons_zero, List.set_cons_succ, List.length_cons, List.length_nil, if_true, if_false, Bool.not_true, Bool.not_false, Bool.false_eq_true, List.append_nil, List.nil_append, List.cons_append, reduceIte, isi_ii, isi_ib, isi_bi, isi_bb, isi_tt, isi_tl, isi_ll, isi_lt, isi_ss, and_d, or_d, and_b, or_b, Bool.or_false, Bool.false_or, Bool.or_true, Bool.true_or, Bool.and_true, Bool.true_and, Bool.and_false, Bool.false_and, wipe_nil, wipe_cons, D_nat, D_int, Nat.reduceAdd, Nat.reduceLeDiff, lm_ok, add_t, add_of, add_ff, add_df, add_dd, add_od, add_fd, Int.cast_ofNat_Int, Int.natCast_zero, Int.natCast_one, Nat.zero_add, Nat.zero_le, Dr, e1t a b]
  have z : opEq true (.d (.int (fs.length : Int))) (.d (.int (R.length : Int))) = .ok (.d (.bool false)) := by
    rw [ne_D (α := Int) (a := fs.length) (b := R.length) (by decide) rfl rfl, decide_eq_true (by rw [hl])]
    rfl
  rw [e_is_season, f_is_season]
  simp only [ap_sSeq, ap_sNil, ap_sRet, ap_sRetN, ap_sCt, ap_sBk, ap_sRaise, ap_sExp, ap_sAsg, putL_d, putL_fr, ap_sIf, ap_sFor, ap_sUnp, un1_ok, ap_sPar, par2_nx, ap_sApp, ap_sExt, ext2_fr, ext2_d, ap_onOwn, on1_own, ap_sSto, sto2_int, sto3_some, fz1_d, fz1_un, fz1_own, ap_fzE_nil, ap_fzE, sq_nx, sq_rt, sq_bk, sq_ct, sq_ex, sq_stuck, okb, exb, stb, ap_eC, vr_d, vr_own, ap_eVar, ap_eBin, ap_eUn, ap_aNil, ap_aCons, ap_eFz, fzL_d, fzL_fr, fz_d, fz_fr, rd_d, rd_fr, rd_own, allD_nil, allD_cons, ap_eTup, ap_eLst, ap_eCall, ap_eBi, boolL_d, ap_tVal, ap_tAn, ap_tOr, ap_tNt, ap_tTrue, ap_eIf, ap_eAn, ap_eOr, ap_eNt, ap_eChain, ap_okB, ap_okI, add_i, sub_i, mul_i, lt_i, le_i, gt_i, ge_i, bLen_t, bLen_l, bLen_f, bLen_o, bLen_s, bInt_i, bInt_b, bList_t, bList_l, bList_f, bList_o, bTuple_t, bTuple_l, bTuple_f, bTuple_o, bMax_2, bMin_2, ix1_some, ix_t, ix_l, ix_f, ix_o, ix_s, at_0, at_1, at_2, ap_oNone, o1_i, ap_oSome, ap_eSl, sl_t, sl_l, sl_f, sl_o, itL_t, itL_l, ap_iEx, ap_iEn, ap_iZp, zipL_t, zipL_l, ap_iR1, ap_iR2, int1_i, ap_gNm, ap_gTp, ap_gAll_nil, ap_gAll, semR_nx, semR_rt, List.getElem?_cons_zero, List.getElem?_cons_succ, List.set_cons_zero, List.set_cons_succ, List.length_cons, List.length_nil, if_true, if_false, Bool.not_true, Bool.not_false, Bool.false_eq_true, List.append_nil, List.nil_append, List.cons_append, reduceIte, isi_ii, isi_ib, isi_bi, isi_bb, isi_tt, isi_tl, isi_ll, isi_lt, isi_ss, and_d, or_d, and_b, or_b, Bool.or_false, Bool.false_or, Bool.or_true, Bool.true_or, Bool.and_true, Bool.true_and, Bool.and_false, Bool.false_and, wipe_nil, wipe_cons, D_nat, D_int, Nat.reduceAdd, Nat.reduceLeDiff, lm_ok, add_t, add_of, add_ff, add_df, add_dd, add_od, add_fd, Int.cast_ofNat_Int, Int.natCast_zero, Int.natCast_one, Nat.zero_add, Nat.zero_le, List.length_map, z, k, bAll_p, all_T]
theorem e12 (h : Ok W R) {fs : List Int} (hl : fs.length = R.length) (hf : ∀ p ∈ R.zip fs, 0 ≤ p.2 ∧ p.2 ≤ p.1.c) : s_ended [lg W R, .tuple (fs.map .int)] = .ok (.tuple (((R.zip fs).foldl endS W).map .int)) := by
  rw [e_ended, f_ended]
  simp only [ap_sSeq, ap_sNil, ap_sRet, ap_sRetN, ap_sCt, ap_sBk, ap_sRaise, ap_sExp, ap_sAsg, putL_d, putL_fr, ap_sIf, ap_sFor, ap_sUnp, un1_ok, ap_sPar, par2_nx, ap_sApp, ap_sExt, ext2_fr, ext2_d, ap_onOwn, on1_own, ap_sSto, sto2_int, sto3_some, fz1_d, fz1_un, fz1_own, ap_fzE_nil, ap_fzE, sq_nx, sq_rt, sq_bk, sq_ct, sq_ex, sq_stuck, okb, exb, stb, ap_eC, vr_d, vr_own, ap_eVar, ap_eBin, ap_eUn, ap_aNil, ap_aCons, ap_eFz, fzL_d, fzL_fr, fz_d, fz_fr, rd_d, rd_fr, rd_own, allD_nil, allD_cons, ap_eTup, ap_eLst, ap_eCall, ap_eBi, boolL_d, ap_tVal, ap_tAn, ap_tOr, ap_tNt, ap_tTrue, ap_eIf, ap_eAn, ap_eOr, ap_eNt, ap_eChain, ap_okB, ap_okI, add_i, sub_i, mul_i, lt_i, le_i, gt_i, ge_i, bLen_t, bLen_l, bLen_f, bLen_o, bLen_s, bInt_i, bInt_b, bList_t, bList_l, bList_f, bList_o, bTuple_t, bTuple_l, bTuple_f, bTuple_o, bMax_2, bMin_2, ix1_some, ix_t, ix_l, ix_f, ix_o, ix_s, at_0, at_1, at_2, ap_oNone, o1_i, ap_oSome, ap_eSl, sl_t, sl_l, sl_f, sl_o, itL_t, itL_l, ap_iEx, ap_iEn, ap_iZp, zipL_t, zipL_l, ap_iR1, ap_iR2, int1_i, ap_gNm, ap_gTp, ap_gAll_nil, ap_gAll, semR_nx, semR_rt, List.getElem?_cons_zero, List.getElem?_cons_succ, List.set_cons_zero, List.set_cons_succ, List.length_cons, List.length_nil, if_true, if_false, Bool.not_true, Bool.not_false, Bool.false_eq_true, List.append_nil, List.nil_append, List.cons_append, reduceIte, isi_ii, isi_ib, isi_bi, isi_bb, isi_tt, isi_tl, isi_ll, isi_lt, isi_ss, and_d, or_d, and_b, or_b, Bool.or_false, Bool.false_or, Bool.or_true, Bool.true_or, Bool.and_true, Bool.true_and, Bool.and_false, Bool.false_and, wipe_nil, wipe_cons, D_nat, D_int, Nat.reduceAdd, Nat.reduceLeDiff, lm_ok, add_t, add_of, add_ff, add_df, add_dd, add_od, add_fd, Int.cast_ofNat_Int, Int.natCast_zero, Int.natCast_one, Nat.zero_add, Nat.zero_le, e4 h, e11 h.l hl hf, e10 h hl]
/-! the law's own -/
theorem map_set (W : List Int) (i : Nat) (v : Int) : (W.map PyData.int).set i (.int v) = (W.set i v).map .int := List.map_set.symm
theorem at_W {i : Nat} (h : i < W.length) : atI (W.map PyData.int) (i : Int) = some (.int (W.getD i 0)) := at_nat (by rw [List.getElem?_map, getD_some h]; rfl)
theorem e20 (h : Ok W R) {fs : List Int} : s__law_ended [lg W R, .tuple (fs.map .int)] = .ok (.tuple (((R.zip fs).foldl endS W).map .int)) := by
  have lp := forGo_T (α := Row × Int) (σ := Est) (g := gTp [(gTp [(gNm 4), (gNm 5), (gNm 6)]), (gNm 3)]) (body := b__law_ended_0) (fun p => .tuple [Dt.D p.1, .int p.2])
    (fun s => [L.d (lg W R), .d (.tuple (fs.map .int)), .own (s.1.map .int), s.2.1, s.2.2.1, s.2.2.2.1, s.2.2.2.2])
    (fun s p => (endS s.1 p, .d (.int p.2), .d (.int (p.1.a : Int)), .d (.int (p.1.b : Int)), .d (.int p.1.c))) (fun i s => s.1.length = W.length) (xs := R.zip fs) (n := 0) (s := (W, .un, .un, .un, .un)) rfl fun i s p hp hs => by
      have hm : p.1 ∈ R := (List.of_mem_zip (List.mem_of_getElem? hp)).1
      obtain ⟨h1, h2, h3, h4⟩ := h.r _ hm
      refine ⟨_, rfl, .inl ?_, by rw [endS_len]; exact hs⟩
      have a1 : p.1.a < s.1.length := by omega
      have a2 : p.1.b < (s.1.set p.1.a (s.1.getD p.1.a 0 + p.2)).length := by rw [List.length_set]; omega
      rw [b__law_ended_0]
      simp only [ap_sSeq, ap_sNil, ap_sRet, ap_sRetN, ap_sCt, ap_sBk, ap_sRaise, ap_sExp, ap_sAsg, putL_d, putL_fr, ap_sIf, ap_sFor, ap_sUnp, un1_ok, ap_sPar, par2_nx, ap_sApp, ap_sExt, ext2_fr, ext2_d, ap_onOwn, on1_own, ap_sSto, sto2_int, sto3_some, fz1_d, fz1_un, fz1_own, ap_fzE_nil, ap_fzE, sq_nx, sq_rt, sq_bk, sq_ct, sq_ex, sq_stuck, okb, exb, stb, ap_eC, vr_d, vr_own, ap_eVar, ap_eBin, ap_eUn, ap_aNil, ap_aCons, ap_eFz, fzL_d, fzL_fr, fz_d, fz_fr, rd_d, rd_fr, rd_own, allD_nil, allD_cons, ap_eTup, ap_eLst, ap_eCall, ap_eBi, boolL_d, ap_tVal, ap_tAn, ap_tOr, ap_tNt, ap_tTrue, ap_eIf, ap_eAn, ap_eOr, ap_eNt, ap_eChain, ap_okB, ap_okI, add_i, sub_i, mul_i, lt_i, le_i, gt_i, ge_i, bLen_t, bLen_l, bLen_f, bLen_o, bLen_s, bInt_i, bInt_b, bList_t, bList_l, bList_f, bList_o, bTuple_t, bTuple_l, bTuple_f, bTuple_o, bMax_2, bMin_2, ix1_some, ix_t, ix_l, ix_f, ix_o, ix_s, at_0, at_1, at_2, ap_oNone, o1_i, ap_oSome, ap_eSl, sl_t, sl_l, sl_f, sl_o, itL_t, itL_l, ap_iEx, ap_iEn, ap_iZp, zipL_t, zipL_l, ap_iR1, ap_iR2, int1_i, ap_gNm, ap_gTp, ap_gAll_nil, ap_gAll, semR_nx, semR_rt, List.getElem?_cons_zero, List.getElem?_cons_succ, List.set_cons_zero, List.set_cons_succ, List.length_cons, List.length_nil, if_true, if_false, Bool.not_true, Bool.not_false, Bool.false_eq_true, List.append_nil, List.nil_append, List.cons_append, reduceIte, isi_ii, isi_ib, isi_bi, isi_bb, isi_tt, isi_tl, isi_ll, isi_lt, isi_ss, and_d, or_d, and_b, or_b, Bool.or_false, Bool.false_or, Bool.or_true, Bool.true_or, Bool.and_true, Bool.true_and, Bool.and_false, Bool.false_and, wipe_nil, wipe_cons, D_nat, D_int, Nat.reduceAdd, Nat.reduceLeDiff, lm_ok, add_t, add_of, add_ff, add_df, add_dd, add_od, add_fd, Int.cast_ofNat_Int, Int.natCast_zero, Int.natCast_one, Nat.zero_add, Nat.zero_le, at_W a1, List.length_map, ixN_nat a1, map_set, at_W a2, ixN_nat a2, Int.add_sub_assoc]
      rfl
  have lp2 := lp.1
  rw [e__law_ended, f__law_ended]
  simp only [ap_sSeq, ap_sNil, ap_sRet, ap_sRetN, ap_sCt, ap_sBk, ap_sRaise, ap_sExp, ap_sAsg, putL_d, putL_fr, ap_sIf, ap_sFor, ap_sUnp, un1_ok, ap_sPar, par2_nx, ap_sApp, ap_sExt, ext2_fr, ext2_d, ap_onOwn, on1_own, ap_sSto, sto2_int, sto3_some, fz1_d, fz1_un, fz1_own, ap_fzE_nil, ap_fzE, sq_nx, sq_rt, sq_bk, sq_ct, sq_ex, sq_stuck, okb, exb, stb, ap_eC, vr_d, vr_own, ap_eVar, ap_eBin, ap_eUn, ap_aNil, ap_aCons, ap_eFz, fzL_d, fzL_fr, fz_d, fz_fr, rd_d, rd_fr, rd_own, allD_nil, allD_cons, ap_eTup, ap_eLst, ap_eCall, ap_eBi, boolL_d, ap_tVal, ap_tAn, ap_tOr, ap_tNt, ap_tTrue, ap_eIf, ap_eAn, ap_eOr, ap_eNt, ap_eChain, ap_okB, ap_okI, add_i, sub_i, mul_i, lt_i, le_i, gt_i, ge_i, bLen_t, bLen_l, bLen_f, bLen_o, bLen_s, bInt_i, bInt_b, bList_t, bList_l, bList_f, bList_o, bTuple_t, bTuple_l, bTuple_f, bTuple_o, bMax_2, bMin_2, ix1_some, ix_t, ix_l, ix_f, ix_o, ix_s, at_0, at_1, at_2, ap_oNone, o1_i, ap_oSome, ap_eSl, sl_t, sl_l, sl_f, sl_o, itL_t, itL_l, ap_iEx, ap_iEn, ap_iZp, zipL_t, zipL_l, ap_iR1, ap_iR2, int1_i, ap_gNm, ap_gTp, ap_gAll_nil, ap_gAll, semR_nx, semR_rt, List.getElem?_cons_zero, List.getElem?_cons_succ, List.set_cons_zero, List.set_cons_succ, List.length_cons, List.length_nil, if_true, if_false, Bool.not_true, Bool.not_false, Bool.false_eq_true, List.append_nil, List.nil_append, List.cons_append, reduceIte, isi_ii, isi_ib, isi_bi, isi_bb, isi_tt, isi_tl, isi_ll, isi_lt, isi_ss, and_d, or_d, and_b, or_b, Bool.or_false, Bool.false_or, Bool.or_true, Bool.true_or, Bool.and_true, Bool.true_and, Bool.and_false, Bool.false_and, wipe_nil, wipe_cons, D_nat, D_int, Nat.reduceAdd, Nat.reduceLeDiff, lm_ok, add_t, add_of, add_ff, add_df, add_dd, add_od, add_fd, Int.cast_ofNat_Int, Int.natCast_zero, Int.natCast_one, Nat.zero_add, Nat.zero_le, zipD_map, lp2]
  rw [fold_fst _ endS fun s x => rfl]
theorem e21 {i : Nat} (h : i < W.length) (hl : W.length ≤ 100) : s__law_place [.tuple (W.map .int), .int (i : Int)] = .ok (.int (1 + ((W.filter fun x => decide (W.getD i 0 < x)).length : Int))) := by
  have k (l2 : L) : q__law_place_0 [L.d (.tuple (W.map .int)), L.d (.int (i : Int)), l2] = .ok (.fr ((W.filter fun x => decide (W.getD i 0 < x)).map .int)) := by
    refine eLc_filter (α := Int) (xs := W) .int (fun x => decide (W.getD i 0 < x)) .int (by simp only [ap_sSeq, ap_sNil, ap_sRet, ap_sRetN, ap_sCt, ap_sBk, ap_sRaise, ap_sExp, ap_sAsg, putL_d, putL_fr, ap_sIf, ap_sFor, ap_sUnp, un1_ok, ap_sPar, par2_nx, ap_sApp, ap_sExt, ext2_fr, ext2_d, ap_onOwn, on1_own, ap_sSto, sto2_int, sto3_some, fz1_d, fz1_un, fz1_own, ap_fzE_nil, ap_fzE, sq_nx, sq_rt, sq_bk, sq_ct, sq_ex, sq_stuck, okb, exb, stb, ap_eC, vr_d, vr_own, ap_eVar, ap_eBin, ap_eUn, ap_aNil, ap_aCons, ap_eFz, fzL_d, fzL_fr, fz_d, fz_fr, rd_d, rd_fr, rd_own, allD_nil, allD_cons, ap_eTup, ap_eLst, ap_eCall, ap_eBi, boolL_d, ap_tVal, ap_tAn, ap_tOr, ap_tNt, ap_tTrue, ap_eIf, ap_eAn, ap_eOr, ap_eNt, ap_eChain, ap_okB, ap_okI, add_i, sub_i, mul_i, lt_i, le_i, gt_i, ge_i, bLen_t, bLen_l, bLen_f, bLen_o, bLen_s, bInt_i, bInt_b, bList_t, bList_l, bList_f, bList_o, bTuple_t, bTuple_l, bTuple_f, bTuple_o, bMax_2, bMin_2, ix1_some, ix_t, ix_l, ix_f, ix_o, ix_s, at_0, at_1, at_2, ap_oNone, o1_i, ap_oSome, ap_eSl, sl_t, sl_l, sl_f, sl_o, itL_t, itL_l, ap_iEx, ap_iEn, ap_iZp, zipL_t, zipL_l, ap_iR1, ap_iR2, int1_i, ap_gNm, ap_gTp, ap_gAll_nil, ap_gAll, semR_nx, semR_rt, List.getElem?_cons_zero, List.getElem?_cons_succ, List.set_cons_zero, List.set_cons_succ, List.length_cons, List.length_nil, if_true, if_false, Bool.not_true, Bool.not_false, Bool.false_eq_true, List.append_nil, List.nil_append, List.cons_append, reduceIte, isi_ii, isi_ib, isi_bi, isi_bb, isi_tt, isi_tl, isi_ll, isi_lt, isi_ss, and_d, or_d, and_b, or_b, Bool.or_false, Bool.false_or, Bool.or_true, Bool.true_or, Bool.and_true, Bool.true_and, Bool.and_false, Bool.false_and, wipe_nil, wipe_cons, D_nat, D_int, Nat.reduceAdd, Nat.reduceLeDiff, lm_ok, add_t, add_of, add_ff, add_df, add_dd, add_od, add_fd, Int.cast_ofNat_Int, Int.natCast_zero, Int.natCast_one, Nat.zero_add, Nat.zero_le]) rfl (by simp only [cap]; omega) fun y hx => ⟨_, rfl, ?_, fun _ => ?_⟩
    · simp only [ap_sSeq, ap_sNil, ap_sRet, ap_sRetN, ap_sCt, ap_sBk, ap_sRaise, ap_sExp, ap_sAsg, putL_d, putL_fr, ap_sIf, ap_sFor, ap_sUnp, un1_ok, ap_sPar, par2_nx, ap_sApp, ap_sExt, ext2_fr, ext2_d, ap_onOwn, on1_own, ap_sSto, sto2_int, sto3_some, fz1_d, fz1_un, fz1_own, ap_fzE_nil, ap_fzE, sq_nx, sq_rt, sq_bk, sq_ct, sq_ex, sq_stuck, okb, exb, stb, ap_eC, vr_d, vr_own, ap_eVar, ap_eBin, ap_eUn, ap_aNil, ap_aCons, ap_eFz, fzL_d, fzL_fr, fz_d, fz_fr, rd_d, rd_fr, rd_own, allD_nil, allD_cons, ap_eTup, ap_eLst, ap_eCall, ap_eBi, boolL_d, ap_tVal, ap_tAn, ap_tOr, ap_tNt, ap_tTrue, ap_eIf, ap_eAn, ap_eOr, ap_eNt, ap_eChain, ap_okB, ap_okI, add_i, sub_i, mul_i, lt_i, le_i, gt_i, ge_i, bLen_t, bLen_l, bLen_f, bLen_o, bLen_s, bInt_i, bInt_b, bList_t, bList_l, bList_f, bList_o, bTuple_t, bTuple_l, bTuple_f, bTuple_o, bMax_2, bMin_2, ix1_some, ix_t, ix_l, ix_f, ix_o, ix_s, at_0, at_1, at_2, ap_oNone, o1_i, ap_oSome, ap_eSl, sl_t, sl_l, sl_f, sl_o, itL_t, itL_l, ap_iEx, ap_iEn, ap_iZp, zipL_t, zipL_l, ap_iR1, ap_iR2, int1_i, ap_gNm, ap_gTp, ap_gAll_nil, ap_gAll, semR_nx, semR_rt, List.getElem?_cons_zero, List.getElem?_cons_succ, List.set_cons_zero, List.set_cons_succ, List.length_cons, List.length_nil, if_true, if_false, Bool.not_true, Bool.not_false, Bool.false_eq_true, List.append_nil, List.nil_append, List.cons_append, reduceIte, isi_ii, isi_ib, isi_bi, isi_bb, isi_tt, isi_tl, isi_ll, isi_lt, isi_ss, and_d, or_d, and_b, or_b, Bool.or_false, Bool.false_or, Bool.or_true, Bool.true_or, Bool.and_true, Bool.true_and, Bool.and_false, Bool.false_and, wipe_nil, wipe_cons, D_nat, D_int, Nat.reduceAdd, Nat.reduceLeDiff, lm_ok, add_t, add_of, add_ff, add_df, add_dd, add_od, add_fd, Int.cast_ofNat_Int, Int.natCast_zero, Int.natCast_one, Nat.zero_add, Nat.zero_le, at_W h]
    · simp only [ap_sSeq, ap_sNil, ap_sRet, ap_sRetN, ap_sCt, ap_sBk, ap_sRaise, ap_sExp, ap_sAsg, putL_d, putL_fr, ap_sIf, ap_sFor, ap_sUnp, un1_ok, ap_sPar, par2_nx, ap_sApp, ap_sExt, ext2_fr, ext2_d, ap_onOwn, on1_own, ap_sSto, sto2_int, sto3_some, fz1_d, fz1_un, fz1_own, ap_fzE_nil, ap_fzE, sq_nx, sq_rt, sq_bk, sq_ct, sq_ex, sq_stuck, okb, exb, stb, ap_eC, vr_d, vr_own, ap_eVar, ap_eBin, ap_eUn, ap_aNil, ap_aCons, ap_eFz, fzL_d, fzL_fr, fz_d, fz_fr, rd_d, rd_fr, rd_own, allD_nil, allD_cons, ap_eTup, ap_eLst, ap_eCall, ap_eBi, boolL_d, ap_tVal, ap_tAn, ap_tOr, ap_tNt, ap_tTrue, ap_eIf, ap_eAn, ap_eOr, ap_eNt, ap_eChain, ap_okB, ap_okI, add_i, sub_i, mul_i, lt_i, le_i, gt_i, ge_i, bLen_t, bLen_l, bLen_f, bLen_o, bLen_s, bInt_i, bInt_b, bList_t, bList_l, bList_f, bList_o, bTuple_t, bTuple_l, bTuple_f, bTuple_o, bMax_2, bMin_2, ix1_some, ix_t, ix_l, ix_f, ix_o, ix_s, at_0, at_1, at_2, ap_oNone, o1_i, ap_oSome, ap_eSl, sl_t, sl_l, sl_f, sl_o, itL_t, itL_l, ap_iEx, ap_iEn, ap_iZp, zipL_t, zipL_l, ap_iR1, ap_iR2, int1_i, ap_gNm, ap_gTp, ap_gAll_nil, ap_gAll, semR_nx, semR_rt, List.getElem?_cons_zero, List.getElem?_cons_succ, List.set_cons_zero, List.set_cons_succ, List.length_cons, List.length_nil, if_true, if_false, Bool.not_true, Bool.not_false, Bool.false_eq_true, List.append_nil, List.nil_append, List.cons_append, reduceIte, isi_ii, isi_ib, isi_bi, isi_bb, isi_tt, isi_tl, isi_ll, isi_lt, isi_ss, and_d, or_d, and_b, or_b, Bool.or_false, Bool.false_or, Bool.or_true, Bool.true_or, Bool.and_true, Bool.true_and, Bool.and_false, Bool.false_and, wipe_nil, wipe_cons, D_nat, D_int, Nat.reduceAdd, Nat.reduceLeDiff, lm_ok, add_t, add_of, add_ff, add_df, add_dd, add_od, add_fd, Int.cast_ofNat_Int, Int.natCast_zero, Int.natCast_one, Nat.zero_add, Nat.zero_le]
  rw [e__law_place, f__law_place]
  simp only [ap_sSeq, ap_sNil, ap_sRet, ap_sRetN, ap_sCt, ap_sBk, ap_sRaise, ap_sExp, ap_sAsg, putL_d, putL_fr, ap_sIf, ap_sFor, ap_sUnp, un1_ok, ap_sPar, par2_nx, ap_sApp, ap_sExt, ext2_fr, ext2_d, ap_onOwn, on1_own, ap_sSto, sto2_int, sto3_some, fz1_d, fz1_un, fz1_own, ap_fzE_nil, ap_fzE, sq_nx, sq_rt, sq_bk, sq_ct, sq_ex, sq_stuck, okb, exb, stb, ap_eC, vr_d, vr_own, ap_eVar, ap_eBin, ap_eUn, ap_aNil, ap_aCons, ap_eFz, fzL_d, fzL_fr, fz_d, fz_fr, rd_d, rd_fr, rd_own, allD_nil, allD_cons, ap_eTup, ap_eLst, ap_eCall, ap_eBi, boolL_d, ap_tVal, ap_tAn, ap_tOr, ap_tNt, ap_tTrue, ap_eIf, ap_eAn, ap_eOr, ap_eNt, ap_eChain, ap_okB, ap_okI, add_i, sub_i, mul_i, lt_i, le_i, gt_i, ge_i, bLen_t, bLen_l, bLen_f, bLen_o, bLen_s, bInt_i, bInt_b, bList_t, bList_l, bList_f, bList_o, bTuple_t, bTuple_l, bTuple_f, bTuple_o, bMax_2, bMin_2, ix1_some, ix_t, ix_l, ix_f, ix_o, ix_s, at_0, at_1, at_2, ap_oNone, o1_i, ap_oSome, ap_eSl, sl_t, sl_l, sl_f, sl_o, itL_t, itL_l, ap_iEx, ap_iEn, ap_iZp, zipL_t, zipL_l, ap_iR1, ap_iR2, int1_i, ap_gNm, ap_gTp, ap_gAll_nil, ap_gAll, semR_nx, semR_rt, List.getElem?_cons_zero, List.getElem?_cons_succ, List.set_cons_zero, List.set_cons_succ, List.length_cons, List.length_nil, if_true, if_false, Bool.not_true, Bool.not_false, Bool.false_eq_true, List.append_nil, List.nil_append, List.cons_append, reduceIte, isi_ii, isi_ib, isi_bi, isi_bb, isi_tt, isi_tl, isi_ll, isi_lt, isi_ss, and_d, or_d, and_b, or_b, Bool.or_false, Bool.false_or, Bool.or_true, Bool.true_or, Bool.and_true, Bool.true_and, Bool.and_false, Bool.false_and, wipe_nil, wipe_cons, D_nat, D_int, Nat.reduceAdd, Nat.reduceLeDiff, lm_ok, add_t, add_of, add_ff, add_df, add_dd, add_od, add_fd, Int.cast_ofNat_Int, Int.natCast_zero, Int.natCast_one, Nat.zero_add, Nat.zero_le, k, List.length_map]
def updR (R : List Row) (p : Nat × Nat) : List Row := R.map fun x => ⟨x.a, x.b, x.c - hit x p⟩
theorem updR_filter (p : Nat × Nat) : ∀ R : List Row, (updR R p).filter (fun x => decide (0 < x.c)) = playR R p
  | [] => rfl
  | x :: R => by
    have ih := updR_filter p R
    unfold updR playR at ih ⊢
    rw [List.map_cons, List.filterMap_cons]
    by_cases q : 0 < x.c - hit x p
    · simp only [List.filter_cons, decide_eq_true q, if_true, if_pos q, ih]
    · simp only [List.filter_cons, decide_eq_false q, Bool.false_eq_true, if_false, if_neg q, ih]
theorem e22 (h : Ok W R) (hw : w < W.length) : s__law_played [lg W R, .int (w : Int), .int (l : Int)] = .ok (lg (addAt W w 1) (playR R (pr w l))) := by
  have hp : (if (l : Int) < (w : Int) then (l : Int) else (w : Int)) = ((pr w l).1 : Nat) := by
    show _ = ((min w l : Nat) : Int)
    split <;> omega
  have hq : (if (l : Int) > (w : Int) then (l : Int) else (w : Int)) = ((pr w l).2 : Nat) := by
    show _ = ((max w l : Nat) : Int)
    split <;> omega
  generalize hpr : pr w l = p at hp hq
  have k0 (l1 l2 l3 l5 l6 l7 l8 l9 : L) : q__law_played_0 [L.d (lg W R), l1, l2, l3, .d (.tuple [.int (p.1 : Int), .int (p.2 : Int)]), l5, l6, l7, l8, l9] = .ok (.fr ((updR R p).map Dt.D)) := by
    unfold updR
    rw [List.map_map]
    refine eLc_map (α := Row) (xs := R) Dt.D _ (by simp only [ap_sSeq, ap_sNil, ap_sRet, ap_sRetN, ap_sCt, ap_sBk, ap_sRaise, ap_sExp, ap_sAsg, putL_d, putL_fr, ap_sIf, ap_sFor, ap_sUnp, un1_ok, ap_sPar, par2_nx, ap_sApp, ap_sExt, ext2_fr, ext2_d, ap_onOwn, on1_own, ap_sSto, sto2_int, sto3_some, fz1_d, fz1_un, fz1_own, ap_fzE_nil, ap_fzE, sq_nx, sq_rt, sq_bk, sq_ct, sq_ex, sq_stuck, okb, exb, stb, ap_eC, vr_d, vr_own, ap_eVar, ap_eBin, ap_eUn, ap_aNil, ap_aCons, ap_eFz, fzL_d, fzL_fr, fz_d, fz_fr, rd_d, rd_fr, rd_own, allD_nil, allD_cons, ap_eTup, ap_eLst, ap_eCall, ap_eBi, boolL_d, ap_tVal, ap_tAn, ap_tOr, ap_tNt, ap_tTrue, ap_eIf, ap_eAn, ap_eOr, ap_eNt, ap_eChain, ap_okB, ap_okI, add_i, sub_i, mul_i, lt_i, le_i, gt_i, ge_i, bLen_t, bLen_l, bLen_f, bLen_o, bLen_s, bInt_i, bInt_b, bList_t, bList_l, bList_f, bList_o, bTuple_t, bTuple_l, bTuple_f, bTuple_o, bMax_2, bMin_2, ix1_some, ix_t, ix_l, ix_f, ix_o, ix_s, at_0, at_1, at_2, ap_oNone, o1_i, ap_oSome, ap_eSl, sl_t, sl_l, sl_f, sl_o, itL_t, itL_l, ap_iEx, ap_iEn, ap_iZp, zipL_t, zipL_l, ap_iR1, ap_iR2, int1_i, ap_gNm, ap_gTp, ap_gAll_nil, ap_gAll, semR_nx, semR_rt, List.getElem?_cons_zero, List.getElem?_cons_succ, List.set_cons_zero, List.set_cons_succ, List.length_cons, List.length_nil, if_true, if_false, Bool.not_true, Bool.not_false, Bool.false_eq_true, List.append_nil, List.nil_append, List.cons_append, reduceIte, isi_ii, isi_ib, isi_bi, isi_bb, isi_tt, isi_tl, isi_ll, isi_lt, isi_ss, and_d, or_d, and_b, or_b, Bool.or_false, Bool.false_or, Bool.or_true, Bool.true_or, Bool.and_true, Bool.true_and, Bool.and_false, Bool.false_and, wipe_nil, wipe_cons, D_nat, D_int, Nat.reduceAdd, Nat.reduceLeDiff, lm_ok, add_t, add_of, add_ff, add_df, add_dd, add_od, add_fd, Int.cast_ofNat_Int, Int.natCast_zero, Int.natCast_one, Nat.zero_add, Nat.zero_le]) rfl (by have := h.l; simp only [cap]; omega) fun x hx => ⟨_, rfl, ?_⟩
    have e3 : opEq false (.d (.tuple [.int (x.a : Int), .int (x.b : Int)])) (.d (.tuple [.int (p.1 : Int), .int (p.2 : Int)])) = .ok (.d (.bool (decide ((x.a, x.b) = p)))) := eq_pair _ _ _ _
    have e4 : (if decide ((x.a, x.b) = p) = true then (1 : Int) else 0) = hit x p := by
      unfold hit
      by_cases q : (x.a, x.b) = p
      · rw [if_pos q, decide_eq_true q, if_pos rfl]
      · rw [if_neg q, decide_eq_false q, if_neg (by decide)]
    simp only [ap_sSeq, ap_sNil, ap_sRet, ap_sRetN, ap_sCt, ap_sBk, ap_sRaise, ap_sExp, ap_sAsg, putL_d, putL_fr, ap_sIf, ap_sFor, ap_sUnp, un1_ok, ap_sPar, par2_nx, ap_sApp, ap_sExt, ext2_fr, ext2_d, ap_onOwn, on1_own, ap_sSto, sto2_int, sto3_some, fz1_d, fz1_un, fz1_own, ap_fzE_nil, ap_fzE, sq_nx, sq_rt, sq_bk, sq_ct, sq_ex, sq_stuck, okb, exb, stb, ap_eC, vr_d, vr_own, ap_eVar, ap_eBin, ap_eUn, ap_aNil, ap_aCons, ap_eFz, fzL_d, fzL_fr, fz_d, fz_fr, rd_d, rd_fr, rd_own, allD_nil, allD_cons, ap_eTup, ap_eLst, ap_eCall, ap_eBi, boolL_d, ap_tVal, ap_tAn, ap_tOr, ap_tNt, ap_tTrue, ap_eIf, ap_eAn, ap_eOr, ap_eNt, ap_eChain, ap_okB, ap_okI, add_i, sub_i, mul_i, lt_i, le_i, gt_i, ge_i, bLen_t, bLen_l, bLen_f, bLen_o, bLen_s, bInt_i, bInt_b, bList_t, bList_l, bList_f, bList_o, bTuple_t, bTuple_l, bTuple_f, bTuple_o, bMax_2, bMin_2, ix1_some, ix_t, ix_l, ix_f, ix_o, ix_s, at_0, at_1, at_2, ap_oNone, o1_i, ap_oSome, ap_eSl, sl_t, sl_l, sl_f, sl_o, itL_t, itL_l, ap_iEx, ap_iEn, ap_iZp, zipL_t, zipL_l, ap_iR1, ap_iR2, int1_i, ap_gNm, ap_gTp, ap_gAll_nil, ap_gAll, semR_nx, semR_rt, List.getElem?_cons_zero, List.getElem?_cons_succ, List.set_cons_zero, List.set_cons_succ, List.length_cons, List.length_nil, if_true, if_false, Bool.not_true, Bool.not_false, Bool.false_eq_true, List.append_nil, List.nil_append, List.cons_append, reduceIte, isi_ii, isi_ib, isi_bi, isi_bb, isi_tt, isi_tl, isi_ll, isi_lt, isi_ss, and_d, or_d, and_b, or_b, Bool.or_false, Bool.false_or, Bool.or_true, Bool.true_or, Bool.and_true, Bool.true_and, Bool.and_false, Bool.false_and, wipe_nil, wipe_cons, D_nat, D_int, Nat.reduceAdd, Nat.reduceLeDiff, lm_ok, add_t, add_of, add_ff, add_df, add_dd, add_od, add_fd, Int.cast_ofNat_Int, Int.natCast_zero, Int.natCast_one, Nat.zero_add, Nat.zero_le, e3, e4]
    rfl
  have k1 (l0 l1 l2 l3 l4 l6 l7 l8 l9 : L) : q__law_played_1 [l0, l1, l2, l3, l4, .d (.list ((updR R p).map Dt.D)), l6, l7, l8, l9] = .ok (.fr (((updR R p).filter (fun x => decide (0 < x.c))).map Dt.D)) := by
    refine eLc_filter (α := Row) (xs := updR R p) Dt.D (fun x => decide (0 < x.c)) Dt.D (by simp only [ap_sSeq, ap_sNil, ap_sRet, ap_sRetN, ap_sCt, ap_sBk, ap_sRaise, ap_sExp, ap_sAsg, putL_d, putL_fr, ap_sIf, ap_sFor, ap_sUnp, un1_ok, ap_sPar, par2_nx, ap_sApp, ap_sExt, ext2_fr, ext2_d, ap_onOwn, on1_own, ap_sSto, sto2_int, sto3_some, fz1_d, fz1_un, fz1_own, ap_fzE_nil, ap_fzE, sq_nx, sq_rt, sq_bk, sq_ct, sq_ex, sq_stuck, okb, exb, stb, ap_eC, vr_d, vr_own, ap_eVar, ap_eBin, ap_eUn, ap_aNil, ap_aCons, ap_eFz, fzL_d, fzL_fr, fz_d, fz_fr, rd_d, rd_fr, rd_own, allD_nil, allD_cons, ap_eTup, ap_eLst, ap_eCall, ap_eBi, boolL_d, ap_tVal, ap_tAn, ap_tOr, ap_tNt, ap_tTrue, ap_eIf, ap_eAn, ap_eOr, ap_eNt, ap_eChain, ap_okB, ap_okI, add_i, sub_i, mul_i, lt_i, le_i, gt_i, ge_i, bLen_t, bLen_l, bLen_f, bLen_o, bLen_s, bInt_i, bInt_b, bList_t, bList_l, bList_f, bList_o, bTuple_t, bTuple_l, bTuple_f, bTuple_o, bMax_2, bMin_2, ix1_some, ix_t, ix_l, ix_f, ix_o, ix_s, at_0, at_1, at_2, ap_oNone, o1_i, ap_oSome, ap_eSl, sl_t, sl_l, sl_f, sl_o, itL_t, itL_l, ap_iEx, ap_iEn, ap_iZp, zipL_t, zipL_l, ap_iR1, ap_iR2, int1_i, ap_gNm, ap_gTp, ap_gAll_nil, ap_gAll, semR_nx, semR_rt, List.getElem?_cons_zero, List.getElem?_cons_succ, List.set_cons_zero, List.set_cons_succ, List.length_cons, List.length_nil, if_true, if_false, Bool.not_true, Bool.not_false, Bool.false_eq_true, List.append_nil, List.nil_append, List.cons_append, reduceIte, isi_ii, isi_ib, isi_bi, isi_bb, isi_tt, isi_tl, isi_ll, isi_lt, isi_ss, and_d, or_d, and_b, or_b, Bool.or_false, Bool.false_or, Bool.or_true, Bool.true_or, Bool.and_true, Bool.true_and, Bool.and_false, Bool.false_and, wipe_nil, wipe_cons, D_nat, D_int, Nat.reduceAdd, Nat.reduceLeDiff, lm_ok, add_t, add_of, add_ff, add_df, add_dd, add_od, add_fd, Int.cast_ofNat_Int, Int.natCast_zero, Int.natCast_one, Nat.zero_add, Nat.zero_le]) rfl (by have := h.l; simp only [cap, updR, List.length_map]; omega) fun x hx => ⟨_, rfl, ?_, fun _ => ?_⟩
    · simp only [ap_sSeq, ap_sNil, ap_sRet, ap_sRetN, ap_sCt, ap_sBk, ap_sRaise, ap_sExp, ap_sAsg, putL_d, putL_fr, ap_sIf, ap_sFor, ap_sUnp, un1_ok, ap_sPar, par2_nx, ap_sApp, ap_sExt, ext2_fr, ext2_d, ap_onOwn, on1_own, ap_sSto, sto2_int, sto3_some, fz1_d, fz1_un, fz1_own, ap_fzE_nil, ap_fzE, sq_nx, sq_rt, sq_bk, sq_ct, sq_ex, sq_stuck, okb, exb, stb, ap_eC, vr_d, vr_own, ap_eVar, ap_eBin, ap_eUn, ap_aNil, ap_aCons, ap_eFz, fzL_d, fzL_fr, fz_d, fz_fr, rd_d, rd_fr, rd_own, allD_nil, allD_cons, ap_eTup, ap_eLst, ap_eCall, ap_eBi, boolL_d, ap_tVal, ap_tAn, ap_tOr, ap_tNt, ap_tTrue, ap_eIf, ap_eAn, ap_eOr, ap_eNt, ap_eChain, ap_okB, ap_okI, add_i, sub_i, mul_i, lt_i, le_i, gt_i, ge_i, bLen_t, bLen_l, bLen_f, bLen_o, bLen_s, bInt_i, bInt_b, bList_t, bList_l, bList_f, bList_o, bTuple_t, bTuple_l, bTuple_f, bTuple_o, bMax_2, bMin_2, ix1_some, ix_t, ix_l, ix_f, ix_o, ix_s, at_0, at_1, at_2, ap_oNone, o1_i, ap_oSome, ap_eSl, sl_t, sl_l, sl_f, sl_o, itL_t, itL_l, ap_iEx, ap_iEn, ap_iZp, zipL_t, zipL_l, ap_iR1, ap_iR2, int1_i, ap_gNm, ap_gTp, ap_gAll_nil, ap_gAll, semR_nx, semR_rt, List.getElem?_cons_zero, List.getElem?_cons_succ, List.set_cons_zero, List.set_cons_succ, List.length_cons, List.length_nil, if_true, if_false, Bool.not_true, Bool.not_false, Bool.false_eq_true, List.append_nil, List.nil_append, List.cons_append, reduceIte, isi_ii, isi_ib, isi_bi, isi_bb, isi_tt, isi_tl, isi_ll, isi_lt, isi_ss, and_d, or_d, and_b, or_b, Bool.or_false, Bool.false_or, Bool.or_true, Bool.true_or, Bool.and_true, Bool.true_and, Bool.and_false, Bool.false_and, wipe_nil, wipe_cons, D_nat, D_int, Nat.reduceAdd, Nat.reduceLeDiff, lm_ok, add_t, add_of, add_ff, add_df, add_dd, add_od, add_fd, Int.cast_ofNat_Int, Int.natCast_zero, Int.natCast_one, Nat.zero_add, Nat.zero_le, Dr]
    · simp only [ap_sSeq, ap_sNil, ap_sRet, ap_sRetN, ap_sCt, ap_sBk, ap_sRaise, ap_sExp, ap_sAsg, putL_d, putL_fr, ap_sIf, ap_sFor, ap_sUnp, un1_ok, ap_sPar, par2_nx, ap_sApp, ap_sExt, ext2_fr, ext2_d, ap_onOwn, on1_own, ap_sSto, sto2_int, sto3_some, fz1_d, fz1_un, fz1_own, ap_fzE_nil, ap_fzE, sq_nx, sq_rt, sq_bk, sq_ct, sq_ex, sq_stuck, okb, exb, stb, ap_eC, vr_d, vr_own, ap_eVar, ap_eBin, ap_eUn, ap_aNil, ap_aCons, ap_eFz, fzL_d, fzL_fr, fz_d, fz_fr, rd_d, rd_fr, rd_own, allD_nil, allD_cons, ap_eTup, ap_eLst, ap_eCall, ap_eBi, boolL_d, ap_tVal, ap_tAn, ap_tOr, ap_tNt, ap_tTrue, ap_eIf, ap_eAn, ap_eOr, ap_eNt, ap_eChain, ap_okB, ap_okI, add_i, sub_i, mul_i, lt_i, le_i, gt_i, ge_i, bLen_t, bLen_l, bLen_f, bLen_o, bLen_s, bInt_i, bInt_b, bList_t, bList_l, bList_f, bList_o, bTuple_t, bTuple_l, bTuple_f, bTuple_o, bMax_2, bMin_2, ix1_some, ix_t, ix_l, ix_f, ix_o, ix_s, at_0, at_1, at_2, ap_oNone, o1_i, ap_oSome, ap_eSl, sl_t, sl_l, sl_f, sl_o, itL_t, itL_l, ap_iEx, ap_iEn, ap_iZp, zipL_t, zipL_l, ap_iR1, ap_iR2, int1_i, ap_gNm, ap_gTp, ap_gAll_nil, ap_gAll, semR_nx, semR_rt, List.getElem?_cons_zero, List.getElem?_cons_succ, List.set_cons_zero, List.set_cons_succ, List.length_cons, List.length_nil, if_true, if_false, Bool.not_true, Bool.not_false, Bool.false_eq_true, List.append_nil, List.nil_append, List.cons_append, reduceIte, isi_ii, isi_ib, isi_bi, isi_bb, isi_tt, isi_tl, isi_ll, isi_lt, isi_ss, and_d, or_d, and_b, or_b, Bool.or_false, Bool.false_or, Bool.or_true, Bool.true_or, Bool.and_true, Bool.true_and, Bool.and_false, Bool.false_and, wipe_nil, wipe_cons, D_nat, D_int, Nat.reduceAdd, Nat.reduceLeDiff, lm_ok, add_t, add_of, add_ff, add_df, add_dd, add_od, add_fd, Int.cast_ofNat_Int, Int.natCast_zero, Int.natCast_one, Nat.zero_add, Nat.zero_le]
  rw [e__law_played, f__law_played]
  simp only [ap_sSeq, ap_sNil, ap_sRet, ap_sRetN, ap_sCt, ap_sBk, ap_sRaise, ap_sExp, ap_sAsg, putL_d, putL_fr, ap_sIf, ap_sFor, ap_sUnp, un1_ok, ap_sPar, par2_nx, ap_sApp, ap_sExt, ext2_fr, ext2_d, ap_onOwn, on1_own, ap_sSto, sto2_int, sto3_some, fz1_d, fz1_un, fz1_own, ap_fzE_nil, ap_fzE, sq_nx, sq_rt, sq_bk, sq_ct, sq_ex, sq_stuck, okb, exb, stb, ap_eC, vr_d, vr_own, ap_eVar, ap_eBin, ap_eUn, ap_aNil, ap_aCons, ap_eFz, fzL_d, fzL_fr, fz_d, fz_fr, rd_d, rd_fr, rd_own, allD_nil, allD_cons, ap_eTup, ap_eLst, ap_eCall, ap_eBi, boolL_d, ap_tVal, ap_tAn, ap_tOr, ap_tNt, ap_tTrue, ap_eIf, ap_eAn, ap_eOr, ap_eNt, ap_eChain, ap_okB, ap_okI, add_i, sub_i, mul_i, lt_i, le_i, gt_i, ge_i, bLen_t, bLen_l, bLen_f, bLen_o, bLen_s, bInt_i, bInt_b, bList_t, bList_l, bList_f, bList_o, bTuple_t, bTuple_l, bTuple_f, bTuple_o, bMax_2, bMin_2, ix1_some, ix_t, ix_l, ix_f, ix_o, ix_s, at_0, at_1, at_2, ap_oNone, o1_i, ap_oSome, ap_eSl, sl_t, sl_l, sl_f, sl_o, itL_t, itL_l, ap_iEx, ap_iEn, ap_iZp, zipL_t, zipL_l, ap_iR1, ap_iR2, int1_i, ap_gNm, ap_gTp, ap_gAll_nil, ap_gAll, semR_nx, semR_rt, List.getElem?_cons_zero, List.getElem?_cons_succ, List.set_cons_zero, List.set_cons_succ, List.length_cons, List.length_nil, if_true, if_false, Bool.not_true, Bool.not_false, Bool.false_eq_true, List.append_nil, List.nil_append, List.cons_append, reduceIte, isi_ii, isi_ib, isi_bi, isi_bb, isi_tt, isi_tl, isi_ll, isi_lt, isi_ss, and_d, or_d, and_b, or_b, Bool.or_false, Bool.false_or, Bool.or_true, Bool.true_or, Bool.and_true, Bool.true_and, Bool.and_false, Bool.false_and, wipe_nil, wipe_cons, D_nat, D_int, Nat.reduceAdd, Nat.reduceLeDiff, lm_ok, add_t, add_of, add_ff, add_df, add_dd, add_od, add_fd, Int.cast_ofNat_Int, Int.natCast_zero, Int.natCast_one, Nat.zero_add, Nat.zero_le, at_W hw, List.length_map, ixN_nat hw, map_set, hp, hq, k0, k1, updR_filter]
  rfl
/-! numbers drawn -/
def cellV (ns : List Int) (k : Nat) : Int := if ns = [] then (k : Int) * 7919 else ns.getD (k % ns.length) 0 + (k : Int) / (ns.length : Int) * 104729
theorem scr_nil (ns : List Int) : opEq false (.d (scr ns)) (.fr []) = .ok (.d (.bool (decide (ns = [])))) := by
  have h := eq2_D (α := List Int) (by decide) false ns []
  exact h
theorem e23 (ns : List Int) (k : Nat) (hn : ns.length ≤ 100) : s__law_cell [scr ns, .int (k : Int)] = .ok (.int (cellV ns k)) := by
  rw [e__law_cell, f__law_cell]
  by_cases e : ns = []
  · have hc : cellV ns k = (k : Int) * 7919 := if_pos e
    rw [hc]
    simp only [ap_sSeq, ap_sNil, ap_sRet, ap_sRetN, ap_sCt, ap_sBk, ap_sRaise, ap_sExp, ap_sAsg, putL_d, putL_fr, ap_sIf, ap_sFor, ap_sUnp, un1_ok, ap_sPar, par2_nx, ap_sApp, ap_sExt, ext2_fr, ext2_d, ap_onOwn, on1_own, ap_sSto, sto2_int, sto3_some, fz1_d, fz1_un, fz1_own, ap_fzE_nil, ap_fzE, sq_nx, sq_rt, sq_bk, sq_ct, sq_ex, sq_stuck, okb, exb, stb, ap_eC, vr_d, vr_own, ap_eVar, ap_eBin, ap_eUn, ap_aNil, ap_aCons, ap_eFz, fzL_d, fzL_fr, fz_d, fz_fr, rd_d, rd_fr, rd_own, allD_nil, allD_cons, ap_eTup, ap_eLst, ap_eCall, ap_eBi, boolL_d, ap_tVal, ap_tAn, ap_tOr, ap_tNt, ap_tTrue, ap_eIf, ap_eAn, ap_eOr, ap_eNt, ap_eChain, ap_okB, ap_okI, add_i, sub_i, mul_i, lt_i, le_i, gt_i, ge_i, bLen_t, bLen_l, bLen_f, bLen_o, bLen_s, bInt_i, bInt_b, bList_t, bList_l, bList_f, bList_o, bTuple_t, bTuple_l, bTuple_f, bTuple_o, bMax_2, bMin_2, ix1_some, ix_t, ix_l, ix_f, ix_o, ix_s, at_0, at_1, at_2, ap_oNone, o1_i, ap_oSome, ap_eSl, sl_t, sl_l, sl_f, sl_o, itL_t, itL_l, ap_iEx, ap_iEn, ap_iZp, zipL_t, zipL_l, ap_iR1, ap_iR2, int1_i, ap_gNm, ap_gTp, ap_gAll_nil, ap_gAll, semR_nx, semR_rt, List.getElem?_cons_zero, List.getElem?_cons_succ, List.set_cons_zero, List.set_cons_succ, List.length_cons, List.length_nil, if_true, if_false, Bool.not_true, Bool.not_false, Bool.false_eq_true, List.append_nil, List.nil_append, List.cons_append, reduceIte, isi_ii, isi_ib, isi_bi, isi_bb, isi_tt, isi_tl, isi_ll, isi_lt, isi_ss, and_d, or_d, and_b, or_b, Bool.or_false, Bool.false_or, Bool.or_true, Bool.true_or, Bool.and_true, Bool.true_and, Bool.and_false, Bool.false_and, wipe_nil, wipe_cons, D_nat, D_int, Nat.reduceAdd, Nat.reduceLeDiff, lm_ok, add_t, add_of, add_ff, add_df, add_dd, add_od, add_fd, Int.cast_ofNat_Int, Int.natCast_zero, Int.natCast_one, Nat.zero_add, Nat.zero_le, scr_nil, decide_eq_true e, mulK (i := (k : Int)) (j := 7919) (by decide) (by decide)]
  · have h0 : 0 < ns.length := List.length_pos_iff.mpr e
    have hl : (0 : Int) < (ns.length : Int) := by omega
    have hm : ((k : Int) % (ns.length : Int)) = ((k % ns.length : Nat) : Int) := (Int.natCast_emod ..).symm
    have hx : k % ns.length < ns.length := Nat.mod_lt _ h0
    have hi : ((ns.length : Int)).natAbs < 2 ^ 500 := mid_of (by omega) (by omega)
    have hc : cellV ns k = ns.getD (k % ns.length) 0 + (k : Int) / (ns.length : Int) * 104729 := if_neg e
    rw [hc]
    simp only [ap_sSeq, ap_sNil, ap_sRet, ap_sRetN, ap_sCt, ap_sBk, ap_sRaise, ap_sExp, ap_sAsg, putL_d, putL_fr, ap_sIf, ap_sFor, ap_sUnp, un1_ok, ap_sPar, par2_nx, ap_sApp, ap_sExt, ext2_fr, ext2_d, ap_onOwn, on1_own, ap_sSto, sto2_int, sto3_some, fz1_d, fz1_un, fz1_own, ap_fzE_nil, ap_fzE, sq_nx, sq_rt, sq_bk, sq_ct, sq_ex, sq_stuck, okb, exb, stb, ap_eC, vr_d, vr_own, ap_eVar, ap_eBin, ap_eUn, ap_aNil, ap_aCons, ap_eFz, fzL_d, fzL_fr, fz_d, fz_fr, rd_d, rd_fr, rd_own, allD_nil, allD_cons, ap_eTup, ap_eLst, ap_eCall, ap_eBi, boolL_d, ap_tVal, ap_tAn, ap_tOr, ap_tNt, ap_tTrue, ap_eIf, ap_eAn, ap_eOr, ap_eNt, ap_eChain, ap_okB, ap_okI, add_i, sub_i, mul_i, lt_i, le_i, gt_i, ge_i, bLen_t, bLen_l, bLen_f, bLen_o, bLen_s, bInt_i, bInt_b, bList_t, bList_l, bList_f, bList_o, bTuple_t, bTuple_l, bTuple_f, bTuple_o, bMax_2, bMin_2, ix1_some, ix_t, ix_l, ix_f, ix_o, ix_s, at_0, at_1, at_2, ap_oNone, o1_i, ap_oSome, ap_eSl, sl_t, sl_l, sl_f, sl_o, itL_t, itL_l, ap_iEx, ap_iEn, ap_iZp, zipL_t, zipL_l, ap_iR1, ap_iR2, int1_i, ap_gNm, ap_gTp, ap_gAll_nil, ap_gAll, semR_nx, semR_rt, List.getElem?_cons_zero, List.getElem?_cons_succ, List.set_cons_zero, List.set_cons_succ, List.length_cons, List.length_nil, if_true, if_false, Bool.not_true, Bool.not_false, Bool.false_eq_true, List.append_nil, List.nil_append, List.cons_append, reduceIte, isi_ii, isi_ib, isi_bi, isi_bb, isi_tt, isi_tl, isi_ll, isi_lt, isi_ss, and_d, or_d, and_b, or_b, Bool.or_false, Bool.false_or, Bool.or_true, Bool.true_or, Bool.and_true, Bool.true_and, Bool.and_false, Bool.false_and, wipe_nil, wipe_cons, D_nat, D_int, Nat.reduceAdd, Nat.reduceLeDiff, lm_ok, add_t, add_of, add_ff, add_df, add_dd, add_od, add_fd, Int.cast_ofNat_Int, Int.natCast_zero, Int.natCast_one, Nat.zero_add, Nat.zero_le, scr_nil, decide_eq_false e, mod_i hl, div_i hl hi, hm, at_W hx, mulK (i := (k : Int) / (ns.length : Int)) (j := 104729) (by decide) (by decide)]
def dr (c k : Int) : Int :=
  let m1 := (c * 6364136223846793005 + (k + 1) * 1442695040888963407) % 340282366920938463463374607431768211507
  let m2 := m1 * m1 % 340282366920938463463374607431768211297
  (m2 % 18446744073709551557 + 1) * (m2 / 18446744073709551557 + 1) * m2 % 340282366920938463463374607431768211507
theorem dr_pos (c k : Int) : 0 ≤ dr c k := Int.emod_nonneg _ (by decide)
theorem e24 (c k : Int) : s__law_drawn [.int c, .int k] = .ok (.int (dr c k)) := by
  have p1 : (0 : Int) < 340282366920938463463374607431768211507 := by decide
  have p2 : (0 : Int) < 340282366920938463463374607431768211297 := by decide
  have p3 : (0 : Int) < 18446744073709551557 := by decide
  unfold dr
  rw [e__law_drawn, f__law_drawn]
  simp only [ap_sSeq, ap_sNil, ap_sRet, ap_sRetN, ap_sCt, ap_sBk, ap_sRaise, ap_sExp, ap_sAsg, putL_d, putL_fr, ap_sIf, ap_sFor, ap_sUnp, un1_ok, ap_sPar, par2_nx, ap_sApp, ap_sExt, ext2_fr, ext2_d, ap_onOwn, on1_own, ap_sSto, sto2_int, sto3_some, fz1_d, fz1_un, fz1_own, ap_fzE_nil, ap_fzE, sq_nx, sq_rt, sq_bk, sq_ct, sq_ex, sq_stuck, okb, exb, stb, ap_eC, vr_d, vr_own, ap_eVar, ap_eBin, ap_eUn, ap_aNil, ap_aCons, ap_eFz, fzL_d, fzL_fr, fz_d, fz_fr, rd_d, rd_fr, rd_own, allD_nil, allD_cons, ap_eTup, ap_eLst, ap_eCall, ap_eBi, boolL_d, ap_tVal, ap_tAn, ap_tOr, ap_tNt, ap_tTrue, ap_eIf, ap_eAn, ap_eOr, ap_eNt, ap_eChain, ap_okB, ap_okI, add_i, sub_i, mul_i, lt_i, le_i, gt_i, ge_i, bLen_t, bLen_l, bLen_f, bLen_o, bLen_s, bInt_i, bInt_b, bList_t, bList_l, bList_f, bList_o, bTuple_t, bTuple_l, bTuple_f, bTuple_o, bMax_2, bMin_2, ix1_some, ix_t, ix_l, ix_f, ix_o, ix_s, at_0, at_1, at_2, ap_oNone, o1_i, ap_oSome, ap_eSl, sl_t, sl_l, sl_f, sl_o, itL_t, itL_l, ap_iEx, ap_iEn, ap_iZp, zipL_t, zipL_l, ap_iR1, ap_iR2, int1_i, ap_gNm, ap_gTp, ap_gAll_nil, ap_gAll, semR_nx, semR_rt, List.getElem?_cons_zero, List.getElem?_cons_succ, List.set_cons_zero, List.set_cons_succ, List.length_cons, List.length_nil, if_true, if_false, Bool.not_true, Bool.not_false, Bool.false_eq_true, List.append_nil, List.nil_append, List.cons_append, reduceIte, isi_ii, isi_ib, isi_bi, isi_bb, isi_tt, isi_tl, isi_ll, isi_lt, isi_ss, and_d, or_d, and_b, or_b, Bool.or_false, Bool.false_or, Bool.or_true, Bool.true_or, Bool.and_true, Bool.true_and, Bool.and_false, Bool.false_and, wipe_nil, wipe_cons, D_nat, D_int, Nat.reduceAdd, Nat.reduceLeDiff, lm_ok, add_t, add_of, add_ff, add_df, add_dd, add_od, add_fd, Int.cast_ofNat_Int, Int.natCast_zero, Int.natCast_one, Nat.zero_add, Nat.zero_le, mulK (i := c) (j := 6364136223846793005) (by decide) (by decide), mulK (i := k + 1) (j := 1442695040888963407) (by decide) (by decide), mod_i p1]
  generalize hm1 : (c * 6364136223846793005 + (k + 1) * 1442695040888963407) % 340282366920938463463374607431768211507 = m1
  have a1 : 0 ≤ m1 := by rw [← hm1]; exact Int.emod_nonneg _ (by decide)
  have a2 : m1 < 340282366920938463463374607431768211507 := by rw [← hm1]; exact Int.emod_lt_of_pos _ p1
  have b1 : m1.natAbs < 2 ^ 500 := mid_of (by omega) (by omega)
  simp only [ap_sSeq, ap_sNil, ap_sRet, ap_sRetN, ap_sCt, ap_sBk, ap_sRaise, ap_sExp, ap_sAsg, putL_d, putL_fr, ap_sIf, ap_sFor, ap_sUnp, un1_ok, ap_sPar, par2_nx, ap_sApp, ap_sExt, ext2_fr, ext2_d, ap_onOwn, on1_own, ap_sSto, sto2_int, sto3_some, fz1_d, fz1_un, fz1_own, ap_fzE_nil, ap_fzE, sq_nx, sq_rt, sq_bk, sq_ct, sq_ex, sq_stuck, okb, exb, stb, ap_eC, vr_d, vr_own, ap_eVar, ap_eBin, ap_eUn, ap_aNil, ap_aCons, ap_eFz, fzL_d, fzL_fr, fz_d, fz_fr, rd_d, rd_fr, rd_own, allD_nil, allD_cons, ap_eTup, ap_eLst, ap_eCall, ap_eBi, boolL_d, ap_tVal, ap_tAn, ap_tOr, ap_tNt, ap_tTrue, ap_eIf, ap_eAn, ap_eOr, ap_eNt, ap_eChain, ap_okB, ap_okI, add_i, sub_i, mul_i, lt_i, le_i, gt_i, ge_i, bLen_t, bLen_l, bLen_f, bLen_o, bLen_s, bInt_i, bInt_b, bList_t, bList_l, bList_f, bList_o, bTuple_t, bTuple_l, bTuple_f, bTuple_o, bMax_2, bMin_2, ix1_some, ix_t, ix_l, ix_f, ix_o, ix_s, at_0, at_1, at_2, ap_oNone, o1_i, ap_oSome, ap_eSl, sl_t, sl_l, sl_f, sl_o, itL_t, itL_l, ap_iEx, ap_iEn, ap_iZp, zipL_t, zipL_l, ap_iR1, ap_iR2, int1_i, ap_gNm, ap_gTp, ap_gAll_nil, ap_gAll, semR_nx, semR_rt, List.getElem?_cons_zero, List.getElem?_cons_succ, List.set_cons_zero, List.set_cons_succ, List.length_cons, List.length_nil, if_true, if_false, Bool.not_true, Bool.not_false, Bool.false_eq_true, List.append_nil, List.nil_append, List.cons_append, reduceIte, isi_ii, isi_ib, isi_bi, isi_bb, isi_tt, isi_tl, isi_ll, isi_lt, isi_ss, and_d, or_d, and_b, or_b, Bool.or_false, Bool.false_or, Bool.or_true, Bool.true_or, Bool.and_true, Bool.true_and, Bool.and_false, Bool.false_and, wipe_nil, wipe_cons, D_nat, D_int, Nat.reduceAdd, Nat.reduceLeDiff, lm_ok, add_t, add_of, add_ff, add_df, add_dd, add_od, add_fd, Int.cast_ofNat_Int, Int.natCast_zero, Int.natCast_one, Nat.zero_add, Nat.zero_le, mulI_m b1 b1, mod_i p2]
  generalize hm2 : m1 * m1 % 340282366920938463463374607431768211297 = m2
  have c1 : 0 ≤ m2 := by rw [← hm2]; exact Int.emod_nonneg _ (by decide)
  have c2 : m2 < 340282366920938463463374607431768211297 := by rw [← hm2]; exact Int.emod_lt_of_pos _ p2
  have d1 : 0 ≤ m2 % 18446744073709551557 := Int.emod_nonneg _ (by decide)
  have d2 : m2 % 18446744073709551557 < 18446744073709551557 := Int.emod_lt_of_pos _ p3
  have d3 : 0 ≤ m2 / 18446744073709551557 := by omega
  have d4 : m2 / 18446744073709551557 < 18446744073709551700 := by omega
  have f1 : 0 ≤ (m2 % 18446744073709551557 + 1) * (m2 / 18446744073709551557 + 1) := Int.mul_nonneg (by omega) (by omega)
  have f2 : (m2 % 18446744073709551557 + 1) * (m2 / 18446744073709551557 + 1) ≤ 18446744073709551557 * 18446744073709551700 := Int.mul_le_mul (by omega) (by omega) (by omega) (by omega)
  simp only [ap_sSeq, ap_sNil, ap_sRet, ap_sRetN, ap_sCt, ap_sBk, ap_sRaise, ap_sExp, ap_sAsg, putL_d, putL_fr, ap_sIf, ap_sFor, ap_sUnp, un1_ok, ap_sPar, par2_nx, ap_sApp, ap_sExt, ext2_fr, ext2_d, ap_onOwn, on1_own, ap_sSto, sto2_int, sto3_some, fz1_d, fz1_un, fz1_own, ap_fzE_nil, ap_fzE, sq_nx, sq_rt, sq_bk, sq_ct, sq_ex, sq_stuck, okb, exb, stb, ap_eC, vr_d, vr_own, ap_eVar, ap_eBin, ap_eUn, ap_aNil, ap_aCons, ap_eFz, fzL_d, fzL_fr, fz_d, fz_fr, rd_d, rd_fr, rd_own, allD_nil, allD_cons, ap_eTup, ap_eLst, ap_eCall, ap_eBi, boolL_d, ap_tVal, ap_tAn, ap_tOr, ap_tNt, ap_tTrue, ap_eIf, ap_eAn, ap_eOr, ap_eNt, ap_eChain, ap_okB, ap_okI, add_i, sub_i, mul_i, lt_i, le_i, gt_i, ge_i, bLen_t, bLen_l, bLen_f, bLen_o, bLen_s, bInt_i, bInt_b, bList_t, bList_l, bList_f, bList_o, bTuple_t, bTuple_l, bTuple_f, bTuple_o, bMax_2, bMin_2, ix1_some, ix_t, ix_l, ix_f, ix_o, ix_s, at_0, at_1, at_2, ap_oNone, o1_i, ap_oSome, ap_eSl, sl_t, sl_l, sl_f, sl_o, itL_t, itL_l, ap_iEx, ap_iEn, ap_iZp, zipL_t, zipL_l, ap_iR1, ap_iR2, int1_i, ap_gNm, ap_gTp, ap_gAll_nil, ap_gAll, semR_nx, semR_rt, List.getElem?_cons_zero, List.getElem?_cons_succ, List.set_cons_zero, List.set_cons_succ, List.length_cons, List.length_nil, if_true, if_false, Bool.not_true, Bool.not_false, Bool.false_eq_true, List.append_nil, List.nil_append, List.cons_append, reduceIte, isi_ii, isi_ib, isi_bi, isi_bb, isi_tt, isi_tl, isi_ll, isi_lt, isi_ss, and_d, or_d, and_b, or_b, Bool.or_false, Bool.false_or, Bool.or_true, Bool.true_or, Bool.and_true, Bool.true_and, Bool.and_false, Bool.false_and, wipe_nil, wipe_cons, D_nat, D_int, Nat.reduceAdd, Nat.reduceLeDiff, lm_ok, add_t, add_of, add_ff, add_df, add_dd, add_od, add_fd, Int.cast_ofNat_Int, Int.natCast_zero, Int.natCast_one, Nat.zero_add, Nat.zero_le, mod_i p3, div_i p3 (show ((18446744073709551557 : Int)).natAbs < 2 ^ 500 from mid_of (by omega) (by omega)), mulK' (i := m2 % 18446744073709551557 + 1) (j := m2 / 18446744073709551557 + 1) (by omega) (by omega),
    mulI_m (i := (m2 % 18446744073709551557 + 1) * (m2 / 18446744073709551557 + 1)) (j := m2) (mid_of (by omega) (by omega)) (mid_of (by omega) (by omega)), mod_i p1]
end
end L11
namespace L11
open PySem PySem.Spec PyProof.Rows L2 PD
/-! the league that is drawn -/
structure Gd (R : List Row) (n a b : Nat) : Prop where
  r : ∀ x ∈ R, x.a < x.b ∧ x.b < n ∧ 1 ≤ x.c ∧ x.c ≤ 9 ∧ (x.a < a ∨ (x.a = a ∧ x.b < b))
  s : R.Pairwise fun x y => x.a < y.a ∨ (x.a = y.a ∧ x.b < y.b)
theorem Gd.nil (n a b : Nat) : Gd [] n a b := ⟨fun x h => absurd h (by simp), .nil⟩
theorem Gd.up {R : List Row} {n a b a' b' : Nat} (g : Gd R n a b) (h : a < a' ∨ (a = a' ∧ b ≤ b')) : Gd R n a' b' :=
  ⟨fun x hx => by obtain ⟨h1, h2, h3, h4, h5⟩ := g.r x hx; exact ⟨h1, h2, h3, h4, by omega⟩, g.s⟩
theorem Gd.app {R : List Row} {n a b : Nat} {c : Int} (g : Gd R n a b) (h1 : a < b) (h2 : b < n) (h3 : 1 ≤ c) (h4 : c ≤ 9) : Gd (R ++ [⟨a, b, c⟩]) n a (b + 1) := by
  refine ⟨fun x hx => ?_, ?_⟩
  · rcases List.mem_append.mp hx with hx | hx
    · obtain ⟨h1, h2, h3, h4, h5⟩ := g.r x hx
      exact ⟨h1, h2, h3, h4, by omega⟩
    · have e : x = ⟨a, b, c⟩ := by simpa using hx
      subst e
      exact ⟨h1, h2, h3, h4, by simp⟩
  · rw [List.pairwise_append]
    refine ⟨g.s, by simp, fun x hx y hy => ?_⟩
    have e : y = ⟨a, b, c⟩ := by simpa using hy
    subst e
    obtain ⟨_, _, _, _, h5⟩ := g.r x hx
    exact h5
theorem at_pick {xs : List Int} {i : Int} (h0 : 0 ≤ i) (h1 : i < xs.length) : atI (xs.map PyData.int) i = some (.int (xs.getD i.toNat 0)) := by
  have e : i = ((i.toNat : Nat) : Int) := by omega
  rw [e]
  exact at_W (by omega)
def pick4 (k : Int) : Int := [1, 2, 3, 9].getD k.toNat 0
theorem pick4_in {k : Int} (h0 : 0 ≤ k) (h1 : k < 4) : 1 ≤ pick4 k ∧ pick4 k ≤ 9 := by
  have : k = 0 ∨ k = 1 ∨ k = 2 ∨ k = 3 := by omega
  rcases this with e | e | e | e <;> subst e <;> decide
def pick3 (k : Int) : Int := [3, 6, 61].getD k.toNat 0
theorem pick3_in {k : Int} (h0 : 0 ≤ k) (h1 : k < 3) : 1 ≤ pick3 k ∧ pick3 k ≤ 61 := by
  have : k = 0 ∨ k = 1 ∨ k = 2 := by omega
  rcases this with e | e | e <;> subst e <;> decide
def hereV (more : Int) (one other : Nat) : Int := dr more (10 + 6 * (one : Int) + (other : Int))
def lstep (more : Int) (one : Nat) (s : Pst) (j : Nat) : Pst :=
  (s.1 ++ (if 0 < hereV more one (one + 1 + j) % 3 then [⟨one, one + 1 + j, 1 + hereV more one (one + 1 + j) / 8 % pick4 (hereV more one (one + 1 + j) / 64 % 4)⟩] else []), .d (.int ((one + 1 + j : Nat) : Int)), .d (.int (hereV more one (one + 1 + j))))
abbrev Pst3 := List Row × L × L × L
def lstep2 (more : Int) (n : Nat) (s : Pst3) (one : Nat) : Pst3 :=
  (((List.range (n - one - 1)).foldl (lstep more one) (s.1, s.2.2.1, s.2.2.2)).1, .d (.int (one : Int)), ((List.range (n - one - 1)).foldl (lstep more one) (s.1, s.2.2.1, s.2.2.2)).2.1, ((List.range (n - one - 1)).foldl (lstep more one) (s.1, s.2.2.1, s.2.2.2)).2.2)
theorem k500 {i : Int} (h1 : -1000000 < i) (h2 : i < 1000000) : i.natAbs < 2 ^ 500 := mid_of (by omega) (by omega)
theorem lp_inner {more : Int} {one n : Nat} {W : PyData} (hn : n ≤ 6) (ho : one < n) {L0 : Nat} (hL : L0 ≤ 90) (s : Pst) (g : Gd s.1 n one 0) (hl : s.1.length ≤ L0) :
    forGo (gNm 6) b__law_league_1 ((List.range (n - one - 1)).map fun (j : Nat) => PyData.int ((one : Int) + 1 + (j : Int))) [L.d (.int more), .d (.int 6), .d (.int (n : Int)), .d W, .own (s.1.map Dt.D), .d (.int (one : Int)), s.2.1, s.2.2, .un]
      = .ok (.nx [L.d (.int more), .d (.int 6), .d (.int (n : Int)), .d W, .own (((List.range (n - one - 1)).foldl (lstep more one) s).1.map Dt.D), .d (.int (one : Int)), ((List.range (n - one - 1)).foldl (lstep more one) s).2.1, ((List.range (n - one - 1)).foldl (lstep more one) s).2.2, .un])
    ∧ Gd ((List.range (n - one - 1)).foldl (lstep more one) s).1 n (one + 1) 0 ∧ ((List.range (n - one - 1)).foldl (lstep more one) s).1.length ≤ L0 + 6 := by
  have lp := forGo_T (α := Nat) (σ := Pst) (g := gNm 6) (body := b__law_league_1) (fun j => PyData.int ((one : Int) + 1 + (j : Int)))
    (fun s => [L.d (.int more), .d (.int 6), .d (.int (n : Int)), .d W, .own (s.1.map Dt.D), .d (.int (one : Int)), s.2.1, s.2.2, .un]) (lstep more one) (fun i s => Gd s.1 n one (one + 1 + i) ∧ s.1.length ≤ L0 + i) (xs := List.range (n - one - 1)) (n := 0) (s := s)
    ⟨g.up (.inr ⟨rfl, by omega⟩), by omega⟩ fun i s x hx hi => by
      have e : x = i ∧ i < n - one - 1 := by
        have h1 := List.getElem?_eq_some_iff.mp hx
        obtain ⟨h1, h2⟩ := h1
        rw [List.getElem_range] at h2
        rw [List.length_range] at h1
        exact ⟨h2.symm, h1⟩
      obtain ⟨rfl, hi2⟩ := e
      obtain ⟨hg, hl2⟩ := hi
      have c1 : (one : Int) + 1 + (x : Int) = ((one + 1 + x : Nat) : Int) := by omega
      have c2 : (10 : Int) + 6 * (one : Int) + ((one + 1 + x : Nat) : Int) = 10 + 6 * (one : Int) + ((one + 1 + x : Nat) : Int) := rfl
      generalize hh : hereV more one (one + 1 + x) = here
      have hdr : dr more (10 + 6 * (one : Int) + ((one + 1 + x : Nat) : Int)) = here := hh
      have hp : 0 ≤ here := by rw [← hh]; exact dr_pos _ _
      have m1 : 0 ≤ here / 64 % 4 ∧ here / 64 % 4 < 4 := by omega
      obtain ⟨q1, q2⟩ := pick4_in m1.1 m1.2
      have q3 : 0 ≤ here / 8 % pick4 (here / 64 % 4) := Int.emod_nonneg _ (by omega)
      have q4 : here / 8 % pick4 (here / 64 % 4) < pick4 (here / 64 % 4) := Int.emod_lt_of_pos _ (by omega)
      have a4 : atI [PyData.int 1, .int 2, .int 3, .int 9] (here / 64 % 4) = some (.int (pick4 (here / 64 % 4))) := at_pick (xs := [1, 2, 3, 9]) m1.1 (by simpa using m1.2)
      refine ⟨_, rfl, .inl ?_, ?_, ?_⟩
      · rw [b__law_league_1]
        unfold lstep
        rw [hh]
        simp only [ap_sSeq, ap_sNil, ap_sRet, ap_sRetN, ap_sCt, ap_sBk, ap_sRaise, ap_sExp, ap_sAsg, putL_d, putL_fr, ap_sIf, ap_sFor, ap_sUnp, un1_ok, ap_sPar, par2_nx, ap_sApp, ap_sExt, ext2_fr, ext2_d, ap_onOwn, on1_own, ap_sSto, sto2_int, sto3_some, fz1_d, fz1_un, fz1_own, ap_fzE_nil, ap_fzE, sq_nx, sq_rt, sq_bk, sq_ct, sq_ex, sq_stuck, okb, exb, stb, ap_eC, vr_d, vr_own, ap_eVar, ap_eBin, ap_eUn, ap_aNil, ap_aCons, ap_eFz, fzL_d, fzL_fr, fz_d, fz_fr, rd_d, rd_fr, rd_own, allD_nil, allD_cons, ap_eTup, ap_eLst, ap_eCall, ap_eBi, boolL_d, ap_tVal, ap_tAn, ap_tOr, ap_tNt, ap_tTrue, ap_eIf, ap_eAn, ap_eOr, ap_eNt, ap_eChain, ap_okB, ap_okI, add_i, sub_i, mul_i, lt_i, le_i, gt_i, ge_i, bLen_t, bLen_l, bLen_f, bLen_o, bLen_s, bInt_i, bInt_b, bList_t, bList_l, bList_f, bList_o, bTuple_t, bTuple_l, bTuple_f, bTuple_o, bMax_2, bMin_2, ix1_some, ix_t, ix_l, ix_f, ix_o, ix_s, at_0, at_1, at_2, ap_oNone, o1_i, ap_oSome, ap_eSl, sl_t, sl_l, sl_f, sl_o, itL_t, itL_l, ap_iEx, ap_iEn, ap_iZp, zipL_t, zipL_l, ap_iR1, ap_iR2, int1_i, ap_gNm, ap_gTp, ap_gAll_nil, ap_gAll, semR_nx, semR_rt, List.getElem?_cons_zero, List.getElem?_cons_succ, List.set_cons_zero, List.set_cons_succ, List.length_cons, List.length_nil, if_true, if_false, Bool.not_true, Bool.not_false, Bool.false_eq_true, List.append_nil, List.nil_append, List.cons_append, reduceIte, isi_ii, isi_ib, isi_bi, isi_bb, isi_tt, isi_tl, isi_ll, isi_lt, isi_ss, and_d, or_d, and_b, or_b, Bool.or_false, Bool.false_or, Bool.or_true, Bool.true_or, Bool.and_true, Bool.true_and, Bool.and_false, Bool.false_and, wipe_nil, wipe_cons, D_nat, D_int, Nat.reduceAdd, Nat.reduceLeDiff, lm_ok, add_t, add_of, add_ff, add_df, add_dd, add_od, add_fd, Int.cast_ofNat_Int, Int.natCast_zero, Int.natCast_one, Nat.zero_add, Nat.zero_le, c1, e24, mulK' (i := 6) (j := (one : Int)) (by decide) (by decide), hdr, mod_i (show (0 : Int) < 3 by decide)]
        by_cases q : 0 < here % 3
        · simp only [ap_sSeq, ap_sNil, ap_sRet, ap_sRetN, ap_sCt, ap_sBk, ap_sRaise, ap_sExp, ap_sAsg, putL_d, putL_fr, ap_sIf, ap_sFor, ap_sUnp, un1_ok, ap_sPar, par2_nx, ap_sApp, ap_sExt, ext2_fr, ext2_d, ap_onOwn, on1_own, ap_sSto, sto2_int, sto3_some, fz1_d, fz1_un, fz1_own, ap_fzE_nil, ap_fzE, sq_nx, sq_rt, sq_bk, sq_ct, sq_ex, sq_stuck, okb, exb, stb, ap_eC, vr_d, vr_own, ap_eVar, ap_eBin, ap_eUn, ap_aNil, ap_aCons, ap_eFz, fzL_d, fzL_fr, fz_d, fz_fr, rd_d, rd_fr, rd_own, allD_nil, allD_cons, ap_eTup, ap_eLst, ap_eCall, ap_eBi, boolL_d, ap_tVal, ap_tAn, ap_tOr, ap_tNt, ap_tTrue, ap_eIf, ap_eAn, ap_eOr, ap_eNt, ap_eChain, ap_okB, ap_okI, add_i, sub_i, mul_i, lt_i, le_i, gt_i, ge_i, bLen_t, bLen_l, bLen_f, bLen_o, bLen_s, bInt_i, bInt_b, bList_t, bList_l, bList_f, bList_o, bTuple_t, bTuple_l, bTuple_f, bTuple_o, bMax_2, bMin_2, ix1_some, ix_t, ix_l, ix_f, ix_o, ix_s, at_0, at_1, at_2, ap_oNone, o1_i, ap_oSome, ap_eSl, sl_t, sl_l, sl_f, sl_o, itL_t, itL_l, ap_iEx, ap_iEn, ap_iZp, zipL_t, zipL_l, ap_iR1, ap_iR2, int1_i, ap_gNm, ap_gTp, ap_gAll_nil, ap_gAll, semR_nx, semR_rt, List.getElem?_cons_zero, List.getElem?_cons_succ, List.set_cons_zero, List.set_cons_succ, List.length_cons, List.length_nil, if_true, if_false, Bool.not_true, Bool.not_false, Bool.false_eq_true, List.append_nil, List.nil_append, List.cons_append, reduceIte, isi_ii, isi_ib, isi_bi, isi_bb, isi_tt, isi_tl, isi_ll, isi_lt, isi_ss, and_d, or_d, and_b, or_b, Bool.or_false, Bool.false_or, Bool.or_true, Bool.true_or, Bool.and_true, Bool.true_and, Bool.and_false, Bool.false_and, wipe_nil, wipe_cons, D_nat, D_int, Nat.reduceAdd, Nat.reduceLeDiff, lm_ok, add_t, add_of, add_ff, add_df, add_dd, add_od, add_fd, Int.cast_ofNat_Int, Int.natCast_zero, Int.natCast_one, Nat.zero_add, Nat.zero_le, q, decide_true, div_i (show (0 : Int) < 8 by decide) (k500 (by decide) (by decide)), div_i (show (0 : Int) < 64 by decide) (k500 (by decide) (by decide)), mod_i (show (0 : Int) < 4 by decide), a4, mod_i (show 0 < pick4 (here / 64 % 4) by omega), List.length_map, lm_ok (show s.1.length + 1 ≤ 100000 by omega)]
          simp only [if_pos q, List.map_append]
          rfl
        · simp only [ap_sSeq, ap_sNil, ap_sRet, ap_sRetN, ap_sCt, ap_sBk, ap_sRaise, ap_sExp, ap_sAsg, putL_d, putL_fr, ap_sIf, ap_sFor, ap_sUnp, un1_ok, ap_sPar, par2_nx, ap_sApp, ap_sExt, ext2_fr, ext2_d, ap_onOwn, on1_own, ap_sSto, sto2_int, sto3_some, fz1_d, fz1_un, fz1_own, ap_fzE_nil, ap_fzE, sq_nx, sq_rt, sq_bk, sq_ct, sq_ex, sq_stuck, okb, exb, stb, ap_eC, vr_d, vr_own, ap_eVar, ap_eBin, ap_eUn, ap_aNil, ap_aCons, ap_eFz, fzL_d, fzL_fr, fz_d, fz_fr, rd_d, rd_fr, rd_own, allD_nil, allD_cons, ap_eTup, ap_eLst, ap_eCall, ap_eBi, boolL_d, ap_tVal, ap_tAn, ap_tOr, ap_tNt, ap_tTrue, ap_eIf, ap_eAn, ap_eOr, ap_eNt, ap_eChain, ap_okB, ap_okI, add_i, sub_i, mul_i, lt_i, le_i, gt_i, ge_i, bLen_t, bLen_l, bLen_f, bLen_o, bLen_s, bInt_i, bInt_b, bList_t, bList_l, bList_f, bList_o, bTuple_t, bTuple_l, bTuple_f, bTuple_o, bMax_2, bMin_2, ix1_some, ix_t, ix_l, ix_f, ix_o, ix_s, at_0, at_1, at_2, ap_oNone, o1_i, ap_oSome, ap_eSl, sl_t, sl_l, sl_f, sl_o, itL_t, itL_l, ap_iEx, ap_iEn, ap_iZp, zipL_t, zipL_l, ap_iR1, ap_iR2, int1_i, ap_gNm, ap_gTp, ap_gAll_nil, ap_gAll, semR_nx, semR_rt, List.getElem?_cons_zero, List.getElem?_cons_succ, List.set_cons_zero, List.set_cons_succ, List.length_cons, List.length_nil, if_true, if_false, Bool.not_true, Bool.not_false, Bool.false_eq_true, List.append_nil, List.nil_append, List.cons_append, reduceIte, isi_ii, isi_ib, isi_bi, isi_bb, isi_tt, isi_tl, isi_ll, isi_lt, isi_ss, and_d, or_d, and_b, or_b, Bool.or_false, Bool.false_or, Bool.or_true, Bool.true_or, Bool.and_true, Bool.true_and, Bool.and_false, Bool.false_and, wipe_nil, wipe_cons, D_nat, D_int, Nat.reduceAdd, Nat.reduceLeDiff, lm_ok, add_t, add_of, add_ff, add_df, add_dd, add_od, add_fd, Int.cast_ofNat_Int, Int.natCast_zero, Int.natCast_one, Nat.zero_add, Nat.zero_le, q, decide_false]
      · unfold lstep
        rw [hh]
        dsimp only
        split
        · have hg' : Gd s.1 n one (one + 1 + x) := hg.up (.inr ⟨rfl, by omega⟩)
          exact (hg'.app (by omega) (by omega) (by omega) (by omega)).up (.inr ⟨rfl, by omega⟩)
        · rw [List.append_nil]
          exact hg.up (.inr ⟨rfl, by omega⟩)
      · unfold lstep
        rw [hh]
        dsimp only
        rw [List.length_append]
        split
        · simp; omega
        · simp; omega
  obtain ⟨h1, h2, h3⟩ := lp
  rw [List.length_range] at h2 h3
  exact ⟨h1, h2.up (.inl (by omega)), by omega⟩
theorem e25 {more : Int} (hm : 0 ≤ more) : ∃ W R, s__law_league [.int more, .int 6] = .ok (lg W R) ∧ Ok W R := by
  obtain ⟨n, hn⟩ : ∃ n : Nat, 2 + more % 5 = (n : Int) := ⟨(2 + more % 5).toNat, by omega⟩
  have n2 : 2 ≤ n := by omega
  have n6 : n ≤ 6 := by omega
  have m3 : 0 ≤ more / 8 % 3 ∧ more / 8 % 3 < 3 := by omega
  obtain ⟨p1, p2⟩ := pick3_in m3.1 m3.2
  have a3 : atI [PyData.int 3, .int 6, .int 61] (more / 8 % 3) = some (.int (pick3 (more / 8 % 3))) := at_pick (xs := [3, 6, 61]) m3.1 (by simpa using m3.2)
  have b6 : b62 (n : Int) = true := b62_in (by omega) (by omega)
  have k0 (l1 l3 l4 l5 l6 l7 l8 : L) : q__law_league_0 [.d (.int more), l1, .d (.int (n : Int)), l3, l4, l5, l6, l7, l8] = .ok (.fr (((List.range n).map fun (i : Nat) => dr more (i : Int) % pick3 (more / 8 % 3)).map .int)) := by
    rw [List.map_map]
    refine eLc_map (α := Nat) (xs := List.range n) (fun i => .int (i : Int)) _ (by simp only [ap_sSeq, ap_sNil, ap_sRet, ap_sRetN, ap_sCt, ap_sBk, ap_sRaise, ap_sExp, ap_sAsg, putL_d, putL_fr, ap_sIf, ap_sFor, ap_sUnp, un1_ok, ap_sPar, par2_nx, ap_sApp, ap_sExt, ext2_fr, ext2_d, ap_onOwn, on1_own, ap_sSto, sto2_int, sto3_some, fz1_d, fz1_un, fz1_own, ap_fzE_nil, ap_fzE, sq_nx, sq_rt, sq_bk, sq_ct, sq_ex, sq_stuck, okb, exb, stb, ap_eC, vr_d, vr_own, ap_eVar, ap_eBin, ap_eUn, ap_aNil, ap_aCons, ap_eFz, fzL_d, fzL_fr, fz_d, fz_fr, rd_d, rd_fr, rd_own, allD_nil, allD_cons, ap_eTup, ap_eLst, ap_eCall, ap_eBi, boolL_d, ap_tVal, ap_tAn, ap_tOr, ap_tNt, ap_tTrue, ap_eIf, ap_eAn, ap_eOr, ap_eNt, ap_eChain, ap_okB, ap_okI, add_i, sub_i, mul_i, lt_i, le_i, gt_i, ge_i, bLen_t, bLen_l, bLen_f, bLen_o, bLen_s, bInt_i, bInt_b, bList_t, bList_l, bList_f, bList_o, bTuple_t, bTuple_l, bTuple_f, bTuple_o, bMax_2, bMin_2, ix1_some, ix_t, ix_l, ix_f, ix_o, ix_s, at_0, at_1, at_2, ap_oNone, o1_i, ap_oSome, ap_eSl, sl_t, sl_l, sl_f, sl_o, itL_t, itL_l, ap_iEx, ap_iEn, ap_iZp, zipL_t, zipL_l, ap_iR1, ap_iR2, int1_i, ap_gNm, ap_gTp, ap_gAll_nil, ap_gAll, semR_nx, semR_rt, List.getElem?_cons_zero, List.getElem?_cons_succ, List.set_cons_zero, List.set_cons_succ, List.length_cons, List.length_nil, if_true, if_false, Bool.not_true, Bool.not_false, Bool.false_eq_true, List.append_nil, List.nil_append, List.cons_append, reduceIte, isi_ii, isi_ib, isi_bi, isi_bb, isi_tt, isi_tl, isi_ll, isi_lt, isi_ss, and_d, or_d, and_b, or_b, Bool.or_false, Bool.false_or, Bool.or_true, Bool.true_or, Bool.and_true, Bool.true_and, Bool.and_false, Bool.false_and, wipe_nil, wipe_cons, D_nat, D_int, Nat.reduceAdd, Nat.reduceLeDiff, lm_ok, add_t, add_of, add_ff, add_df, add_dd, add_od, add_fd, Int.cast_ofNat_Int, Int.natCast_zero, Int.natCast_one, Nat.zero_add, Nat.zero_le, b6, Int.toNat_natCast]; rw [rng0]) rfl (by simp only [cap, List.length_range]; omega) fun y hx => ⟨_, rfl, ?_⟩
    simp only [ap_sSeq, ap_sNil, ap_sRet, ap_sRetN, ap_sCt, ap_sBk, ap_sRaise, ap_sExp, ap_sAsg, putL_d, putL_fr, ap_sIf, ap_sFor, ap_sUnp, un1_ok, ap_sPar, par2_nx, ap_sApp, ap_sExt, ext2_fr, ext2_d, ap_onOwn, on1_own, ap_sSto, sto2_int, sto3_some, fz1_d, fz1_un, fz1_own, ap_fzE_nil, ap_fzE, sq_nx, sq_rt, sq_bk, sq_ct, sq_ex, sq_stuck, okb, exb, stb, ap_eC, vr_d, vr_own, ap_eVar, ap_eBin, ap_eUn, ap_aNil, ap_aCons, ap_eFz, fzL_d, fzL_fr, fz_d, fz_fr, rd_d, rd_fr, rd_own, allD_nil, allD_cons, ap_eTup, ap_eLst, ap_eCall, ap_eBi, boolL_d, ap_tVal, ap_tAn, ap_tOr, ap_tNt, ap_tTrue, ap_eIf, ap_eAn, ap_eOr, ap_eNt, ap_eChain, ap_okB, ap_okI, add_i, sub_i, mul_i, lt_i, le_i, gt_i, ge_i, bLen_t, bLen_l, bLen_f, bLen_o, bLen_s, bInt_i, bInt_b, bList_t, bList_l, bList_f, bList_o, bTuple_t, bTuple_l, bTuple_f, bTuple_o, bMax_2, bMin_2, ix1_some, ix_t, ix_l, ix_f, ix_o, ix_s, at_0, at_1, at_2, ap_oNone, o1_i, ap_oSome, ap_eSl, sl_t, sl_l, sl_f, sl_o, itL_t, itL_l, ap_iEx, ap_iEn, ap_iZp, zipL_t, zipL_l, ap_iR1, ap_iR2, int1_i, ap_gNm, ap_gTp, ap_gAll_nil, ap_gAll, semR_nx, semR_rt, List.getElem?_cons_zero, List.getElem?_cons_succ, List.set_cons_zero, List.set_cons_succ, List.length_cons, List.length_nil, if_true, if_false, Bool.not_true, Bool.not_false, Bool.false_eq_true, List.append_nil, List.nil_append, List.cons_append, reduceIte, isi_ii, isi_ib, isi_bi, isi_bb, isi_tt, isi_tl, isi_ll, isi_lt, isi_ss, and_d, or_d, and_b, or_b, Bool.or_false, Bool.false_or, Bool.or_true, Bool.true_or, Bool.and_true, Bool.true_and, Bool.and_false, Bool.false_and, wipe_nil, wipe_cons, D_nat, D_int, Nat.reduceAdd, Nat.reduceLeDiff, lm_ok, add_t, add_of, add_ff, add_df, add_dd, add_od, add_fd, Int.cast_ofNat_Int, Int.natCast_zero, Int.natCast_one, Nat.zero_add, Nat.zero_le, e24, div_i (show (0 : Int) < 8 by decide) (k500 (by decide) (by decide)), mod_i (show (0 : Int) < 3 by decide), a3, mod_i (show 0 < pick3 (more / 8 % 3) by omega)]
    rfl
  generalize hW : ((List.range n).map fun (i : Nat) => dr more (i : Int) % pick3 (more / 8 % 3)) = W at k0
  have lp := forGo_T (α := Nat) (σ := Pst3) (g := gNm 5) (body := b__law_league_2) (fun i => .int (i : Int))
    (fun s => [L.d (.int more), .d (.int 6), .d (.int (n : Int)), .d (.tuple (W.map .int)), .own (s.1.map Dt.D), s.2.1, s.2.2.1, s.2.2.2, .un]) (lstep2 more n) (fun i s => Gd s.1 n i 0 ∧ s.1.length ≤ 6 * i) (xs := List.range n) (n := 0) (s := ([], .un, .un, .un))
    ⟨Gd.nil _ _ _, Nat.le_refl _⟩ fun i s x hx hi => by
      have e : x = i ∧ i < n := by
        have h1 := List.getElem?_eq_some_iff.mp hx
        obtain ⟨h1, h2⟩ := h1
        rw [List.getElem_range] at h2
        rw [List.length_range] at h1
        exact ⟨h2.symm, h1⟩
      obtain ⟨rfl, hi2⟩ := e
      rw [Nat.zero_add] at hi
      obtain ⟨hg, hl2⟩ := hi
      obtain ⟨r1, r2, r3⟩ := lp_inner (more := more) (W := .tuple (W.map .int)) n6 hi2 (L0 := 6 * x) (by omega) (s.1, s.2.2.1, s.2.2.2) hg hl2
      have c1 : (((n : Int) - ((x : Int) + 1)).toNat) = n - x - 1 := by omega
      have bx : b62 ((x : Int) + 1) = true := b62_in (by omega) (by omega)
      refine ⟨_, rfl, .inl ?_, ?_, ?_⟩
      · rw [b__law_league_2]
        simp only [ap_sSeq, ap_sNil, ap_sRet, ap_sRetN, ap_sCt, ap_sBk, ap_sRaise, ap_sExp, ap_sAsg, putL_d, putL_fr, ap_sIf, ap_sFor, ap_sUnp, un1_ok, ap_sPar, par2_nx, ap_sApp, ap_sExt, ext2_fr, ext2_d, ap_onOwn, on1_own, ap_sSto, sto2_int, sto3_some, fz1_d, fz1_un, fz1_own, ap_fzE_nil, ap_fzE, sq_nx, sq_rt, sq_bk, sq_ct, sq_ex, sq_stuck, okb, exb, stb, ap_eC, vr_d, vr_own, ap_eVar, ap_eBin, ap_eUn, ap_aNil, ap_aCons, ap_eFz, fzL_d, fzL_fr, fz_d, fz_fr, rd_d, rd_fr, rd_own, allD_nil, allD_cons, ap_eTup, ap_eLst, ap_eCall, ap_eBi, boolL_d, ap_tVal, ap_tAn, ap_tOr, ap_tNt, ap_tTrue, ap_eIf, ap_eAn, ap_eOr, ap_eNt, ap_eChain, ap_okB, ap_okI, add_i, sub_i, mul_i, lt_i, le_i, gt_i, ge_i, bLen_t, bLen_l, bLen_f, bLen_o, bLen_s, bInt_i, bInt_b, bList_t, bList_l, bList_f, bList_o, bTuple_t, bTuple_l, bTuple_f, bTuple_o, bMax_2, bMin_2, ix1_some, ix_t, ix_l, ix_f, ix_o, ix_s, at_0, at_1, at_2, ap_oNone, o1_i, ap_oSome, ap_eSl, sl_t, sl_l, sl_f, sl_o, itL_t, itL_l, ap_iEx, ap_iEn, ap_iZp, zipL_t, zipL_l, ap_iR1, ap_iR2, int1_i, ap_gNm, ap_gTp, ap_gAll_nil, ap_gAll, semR_nx, semR_rt, List.getElem?_cons_zero, List.getElem?_cons_succ, List.set_cons_zero, List.set_cons_succ, List.length_cons, List.length_nil, if_true, if_false, Bool.not_true, Bool.not_false, Bool.false_eq_true, List.append_nil, List.nil_append, List.cons_append, reduceIte, isi_ii, isi_ib, isi_bi, isi_bb, isi_tt, isi_tl, isi_ll, isi_lt, isi_ss, and_d, or_d, and_b, or_b, Bool.or_false, Bool.false_or, Bool.or_true, Bool.true_or, Bool.and_true, Bool.true_and, Bool.and_false, Bool.false_and, wipe_nil, wipe_cons, D_nat, D_int, Nat.reduceAdd, Nat.reduceLeDiff, lm_ok, add_t, add_of, add_ff, add_df, add_dd, add_od, add_fd, Int.cast_ofNat_Int, Int.natCast_zero, Int.natCast_one, Nat.zero_add, Nat.zero_le, bx, b6, and_self, c1]
        unfold rngD
        rw [r1]
        rfl
      · rw [Nat.zero_add]; exact r2
      · rw [Nat.zero_add]; exact Nat.le_trans r3 (by omega)
  obtain ⟨l1, l2, l3⟩ := lp
  rw [List.length_range] at l2 l3
  rw [Nat.zero_add] at l2 l3
  refine ⟨W, ((List.range n).foldl (lstep2 more n) ([], .un, .un, .un)).1, ?_, ?_⟩
  · rw [e__law_league, f__law_league]
    simp only [List.map_nil] at l1
    simp only [ap_sSeq, ap_sNil, ap_sRet, ap_sRetN, ap_sCt, ap_sBk, ap_sRaise, ap_sExp, ap_sAsg, putL_d, putL_fr, ap_sIf, ap_sFor, ap_sUnp, un1_ok, ap_sPar, par2_nx, ap_sApp, ap_sExt, ext2_fr, ext2_d, ap_onOwn, on1_own, ap_sSto, sto2_int, sto3_some, fz1_d, fz1_un, fz1_own, ap_fzE_nil, ap_fzE, sq_nx, sq_rt, sq_bk, sq_ct, sq_ex, sq_stuck, okb, exb, stb, ap_eC, vr_d, vr_own, ap_eVar, ap_eBin, ap_eUn, ap_aNil, ap_aCons, ap_eFz, fzL_d, fzL_fr, fz_d, fz_fr, rd_d, rd_fr, rd_own, allD_nil, allD_cons, ap_eTup, ap_eLst, ap_eCall, ap_eBi, boolL_d, ap_tVal, ap_tAn, ap_tOr, ap_tNt, ap_tTrue, ap_eIf, ap_eAn, ap_eOr, ap_eNt, ap_eChain, ap_okB, ap_okI, add_i, sub_i, mul_i, lt_i, le_i, gt_i, ge_i, bLen_t, bLen_l, bLen_f, bLen_o, bLen_s, bInt_i, bInt_b, bList_t, bList_l, bList_f, bList_o, bTuple_t, bTuple_l, bTuple_f, bTuple_o, bMax_2, bMin_2, ix1_some, ix_t, ix_l, ix_f, ix_o, ix_s, at_0, at_1, at_2, ap_oNone, o1_i, ap_oSome, ap_eSl, sl_t, sl_l, sl_f, sl_o, itL_t, itL_l, ap_iEx, ap_iEn, ap_iZp, zipL_t, zipL_l, ap_iR1, ap_iR2, int1_i, ap_gNm, ap_gTp, ap_gAll_nil, ap_gAll, semR_nx, semR_rt, List.getElem?_cons_zero, List.getElem?_cons_succ, List.set_cons_zero, List.set_cons_succ, List.length_cons, List.length_nil, if_true, if_false, Bool.not_true, Bool.not_false, Bool.false_eq_true, List.append_nil, List.nil_append, List.cons_append, reduceIte, isi_ii, isi_ib, isi_bi, isi_bb, isi_tt, isi_tl, isi_ll, isi_lt, isi_ss, and_d, or_d, and_b, or_b, Bool.or_false, Bool.false_or, Bool.or_true, Bool.true_or, Bool.and_true, Bool.true_and, Bool.and_false, Bool.false_and, wipe_nil, wipe_cons, D_nat, D_int, Nat.reduceAdd, Nat.reduceLeDiff, lm_ok, add_t, add_of, add_ff, add_df, add_dd, add_od, add_fd, Int.cast_ofNat_Int, Int.natCast_zero, Int.natCast_one, Nat.zero_add, Nat.zero_le, show ((6 : Int) - 1) = 5 from rfl, mod_i (show (0 : Int) < 5 by decide), hn, k0, b6, Int.toNat_natCast, rng0, l1]
  · have lW : W.length = n := by rw [← hW]; simp
    refine ⟨by omega, by omega, fun x hx => ?_, fun x hx => ?_, l2.s, by omega⟩
    · rw [← hW] at hx
      obtain ⟨i, _, rfl⟩ := List.mem_map.mp hx
      have q3 : 0 ≤ dr more (i : Int) % pick3 (more / 8 % 3) := Int.emod_nonneg _ (by omega)
      have q4 : dr more (i : Int) % pick3 (more / 8 % 3) < pick3 (more / 8 % 3) := Int.emod_lt_of_pos _ (by omega)
      omega
    · obtain ⟨h1, h2, h3, h4, _⟩ := l2.r x hx
      exact ⟨h1, by omega, h3, h4⟩
end L11
namespace L11
open PySem PySem.Spec PyProof.Rows L2 PD
/-! any order -/
abbrev Mt := Nat × Nat
def cw (P : List Mt) (i : Nat) : Int := ((P.countP fun m => decide (m.1 = i) : Nat) : Int)
def cp (P : List Mt) (x : Row) : Int := ((P.countP fun m => decide (pr m.1 m.2 = (x.a, x.b)) : Nat) : Int)
def stW (W : List Int) (P : List Mt) : List Int := (List.range W.length).map fun i => W.getD i 0 + cw P i
def stR (R : List Row) (P : List Mt) : List Row := R.filterMap fun x => if 0 < x.c - cp P x then some ⟨x.a, x.b, x.c - cp P x⟩ else none
theorem cw_app (P Q : List Mt) (i : Nat) : cw (P ++ Q) i = cw P i + cw Q i := by
  unfold cw
  rw [List.countP_append]
  omega
theorem cp_app (P Q : List Mt) (x : Row) : cp (P ++ Q) x = cp P x + cp Q x := by
  unfold cp
  rw [List.countP_append]
  omega
theorem cw_one (m : Mt) (i : Nat) : cw [m] i = if m.1 = i then 1 else 0 := by
  unfold cw
  rw [List.countP_singleton]
  by_cases h : m.1 = i <;> simp [h]
theorem cp_one (m : Mt) (x : Row) : cp [m] x = if pr m.1 m.2 = (x.a, x.b) then 1 else 0 := by
  unfold cp
  rw [List.countP_singleton]
  by_cases h : pr m.1 m.2 = (x.a, x.b) <;> simp [h]
theorem cw_nn (P : List Mt) (i : Nat) : 0 ≤ cw P i := Int.natCast_nonneg _
theorem cp_nn (P : List Mt) (x : Row) : 0 ≤ cp P x := Int.natCast_nonneg _
theorem stW_len (W : List Int) (P : List Mt) : (stW W P).length = W.length := by simp [stW]
theorem stW_get (W : List Int) (P : List Mt) {i : Nat} (h : i < W.length) : (stW W P).getD i 0 = W.getD i 0 + cw P i := by
  unfold stW
  rw [List.getD_eq_getElem?_getD, List.getElem?_map, List.getElem?_range h]
  rfl
theorem getD_ext {A B : List Int} (hl : A.length = B.length) (h : ∀ i, i < A.length → A.getD i 0 = B.getD i 0) : A = B := by
  refine List.ext_getElem hl fun i h1 h2 => ?_
  have e := h i h1
  rw [List.getD_eq_getElem?_getD, List.getD_eq_getElem?_getD, List.getElem?_eq_getElem h1, List.getElem?_eq_getElem h2] at e
  exact e
theorem addAt_get (W : List Int) {a i : Nat} (v : Int) (ha : a < W.length) : (addAt W a v).getD i 0 = W.getD i 0 + if a = i then v else 0 := by
  unfold addAt
  rw [List.getD_eq_getElem?_getD, List.getD_eq_getElem?_getD, List.getElem?_set]
  by_cases h : a = i
  · subst h
    rw [if_pos rfl, if_pos ha, if_pos rfl, List.getD_eq_getElem?_getD]
    rfl
  · rw [if_neg h, if_neg h, Int.add_zero, List.getD_eq_getElem?_getD]
theorem step_W (W : List Int) (P : List Mt) {w l : Nat} (h : w < W.length) : addAt (stW W P) w 1 = stW W (P ++ [(w, l)]) := by
  refine getD_ext (by rw [addAt_len, stW_len, stW_len]) fun i hi => ?_
  rw [addAt_len, stW_len] at hi
  rw [addAt_get _ _ (by rw [stW_len]; exact h), stW_get _ _ hi, stW_get _ _ hi, cw_app, cw_one]
  omega
theorem hit_eq (a b : Nat) (c : Int) (p : Mt) : hit ⟨a, b, c⟩ p = if (a, b) = p then 1 else 0 := rfl
theorem step_R (R : List Row) (P : List Mt) (w l : Nat) : playR (stR R P) (pr w l) = stR R (P ++ [(w, l)]) := by
  unfold playR stR
  rw [List.filterMap_filterMap]
  congr 1
  funext x
  rw [cp_app, cp_one]
  have hn := cp_nn P x
  have e : (if pr w l = (x.a, x.b) then (1 : Int) else 0) = if (x.a, x.b) = pr w l then 1 else 0 := by
    by_cases h : pr w l = (x.a, x.b)
    · rw [if_pos h, if_pos h.symm]
    · rw [if_neg h, if_neg fun z => h z.symm]
  rw [show (if pr (w, l).1 (w, l).2 = (x.a, x.b) then (1 : Int) else 0) = if (x.a, x.b) = pr w l then 1 else 0 from e]
  by_cases h : 0 < x.c - cp P x
  · rw [if_pos h, Option.bind_some]
    rw [hit_eq, show x.c - cp P x - (if (x.a, x.b) = pr w l then (1 : Int) else 0) = x.c - (cp P x + if (x.a, x.b) = pr w l then 1 else 0) by omega]
  · rw [if_neg h, Option.bind_none, if_neg (by split <;> omega)]
theorem start_W (W : List Int) : stW W [] = W := by
  refine getD_ext (stW_len _ _) fun i hi => ?_
  rw [stW_len] at hi
  rw [stW_get _ _ hi]
  show _ + 0 = _
  omega
theorem start_R {R : List Row} (h : ∀ x ∈ R, 1 ≤ x.c) : stR R [] = R := by
  unfold stR
  induction R with
  | nil => rfl
  | cons x R ih =>
    rw [List.filterMap_cons]
    have h1 := h x (List.mem_cons_self ..)
    have e : cp [] x = 0 := rfl
    rw [e, if_pos (by omega), ih fun y hy => h y (List.mem_cons_of_mem _ hy), Int.sub_zero]
/-! the matches of a season -/
def blk (p : Row × Int) : List Mt := List.replicate p.2.toNat (p.1.a, p.1.b) ++ List.replicate (p.1.c - p.2).toNat (p.1.b, p.1.a)
structure Fit (n : Nat) (p : Row × Int) : Prop where
  ab : p.1.a < p.1.b
  b : p.1.b < n
  f0 : 0 ≤ p.2
  fc : p.2 ≤ p.1.c
  c9 : p.1.c ≤ 9
theorem cw_blk (p : Row × Int) {n : Nat} (h : Fit n p) (i : Nat) : cw (blk p) i = (if p.1.a = i then p.2 else 0) + if p.1.b = i then p.1.c - p.2 else 0 := by
  obtain ⟨h1, h2, h3, h4, h5⟩ := h
  unfold blk
  rw [cw_app]
  unfold cw
  rw [List.countP_replicate, List.countP_replicate]
  by_cases ha : p.1.a = i <;> by_cases hb : p.1.b = i <;> simp [ha, hb] <;> omega
theorem pr_lt {a b : Nat} (h : a < b) : pr a b = (a, b) ∧ pr b a = (a, b) := by
  unfold pr
  rw [Nat.min_eq_left (Nat.le_of_lt h), Nat.max_eq_right (Nat.le_of_lt h), Nat.min_eq_right (Nat.le_of_lt h), Nat.max_eq_left (Nat.le_of_lt h)]
  exact ⟨rfl, rfl⟩
theorem cp_blk (p : Row × Int) {n : Nat} (h : Fit n p) (x : Row) : cp (blk p) x = if (p.1.a, p.1.b) = (x.a, x.b) then p.1.c else 0 := by
  obtain ⟨h1, h2, h3, h4, h5⟩ := h
  obtain ⟨q1, q2⟩ := pr_lt h1
  unfold blk
  rw [cp_app]
  unfold cp
  rw [List.countP_replicate, List.countP_replicate]
  simp only [q1, q2]
  by_cases ha : (p.1.a, p.1.b) = (x.a, x.b)
  · rw [decide_eq_true ha]
    simp only [if_true, if_pos ha]
    omega
  · rw [decide_eq_false ha]
    simp [ha]
theorem endS_get (W : List Int) (p : Row × Int) {i : Nat} (h : Fit W.length p) : (endS W p).getD i 0 = W.getD i 0 + cw (blk p) i := by
  rw [cw_blk p h]
  obtain ⟨h1, h2, h3, h4, h5⟩ := h
  unfold endS
  rw [addAt_get _ _ (by rw [addAt_len]; exact h2), addAt_get _ _ (by omega)]
  omega
theorem end_all : ∀ (L : List (Row × Int)) (W : List Int), (∀ p ∈ L, Fit W.length p) → L.foldl endS W = stW W (L.flatMap blk)
  | [], W, _ => (start_W W).symm
  | p :: L, W, h => by
    have hp := h p (List.mem_cons_self ..)
    rw [List.foldl_cons, end_all L (endS W p) fun q hq => by rw [endS_len]; exact h q (List.mem_cons_of_mem _ hq), List.flatMap_cons]
    refine getD_ext (by rw [stW_len, stW_len, endS_len]) fun i hi => ?_
    rw [stW_len, endS_len] at hi
    rw [stW_get _ _ (by rw [endS_len]; exact hi), stW_get _ _ hi, endS_get W p hp, cw_app]
    omega
/-! how often a pair is met -/
abbrev Srt (R : List Row) : Prop := R.Pairwise fun x y => x.a < y.a ∨ (x.a = y.a ∧ x.b < y.b)
theorem hits_zero {R : List Row} {p : Mt} (h : ∀ x ∈ R, (x.a, x.b) ≠ p) : (R.map fun x => hit x p).sum = 0 := by
  induction R with
  | nil => rfl
  | cons x R ih =>
    rw [List.map_cons, List.sum_cons, ih fun y hy => h y (List.mem_cons_of_mem _ hy)]
    have e : hit x p = 0 := if_neg (h x (List.mem_cons_self ..))
    rw [e]
    rfl
theorem srt_ne {x y : Row} (h : x.a < y.a ∨ (x.a = y.a ∧ x.b < y.b)) : (y.a, y.b) ≠ (x.a, x.b) := fun z => by
  simp only [Prod.mk.injEq] at z
  omega
theorem hits_le {R : List Row} (h : Srt R) (p : Mt) : (R.map fun x => hit x p).sum ≤ 1 := by
  induction R with
  | nil => exact (by decide : (0 : Int) ≤ 1)
  | cons x R ih =>
    have h' := List.pairwise_cons.mp h
    rw [List.map_cons, List.sum_cons]
    by_cases e : (x.a, x.b) = p
    · have z := hits_zero (R := R) (p := p) fun y hy => by rw [← e]; exact srt_ne (h'.1 y hy)
      have e1 : hit x p = 1 := if_pos e
      omega
    · have e1 : hit x p = 0 := if_neg e
      have := ih h'.2
      omega
theorem hit_nn (x : Row) (p : Mt) : 0 ≤ hit x p := by
  unfold hit
  split <;> decide
theorem hits_nn (R : List Row) (p : Mt) : 0 ≤ (R.map fun x => hit x p).sum := by
  induction R with
  | nil => exact (by decide : (0 : Int) ≤ 0)
  | cons x R ih =>
    rw [List.map_cons, List.sum_cons]
    have := hit_nn x p
    omega
theorem hits_ge {R : List Row} {p : Mt} (h : ∃ x ∈ R, (x.a, x.b) = p) : 1 ≤ (R.map fun x => hit x p).sum := by
  obtain ⟨x, hx, e⟩ := h
  induction R with
  | nil => cases hx
  | cons y R ih =>
    rw [List.map_cons, List.sum_cons]
    rcases List.mem_cons.mp hx with z | z
    · subst z
      have e1 : hit x p = 1 := if_pos e
      have := hits_nn R p
      omega
    · have := ih z
      have := hit_nn y p
      omega
theorem cp_flat {n : Nat} (x : Row) : ∀ {L : List (Row × Int)}, (∀ p ∈ L, Fit n p) → cp (L.flatMap blk) x = (L.map fun p => if (p.1.a, p.1.b) = (x.a, x.b) then p.1.c else 0).sum
  | [], _ => rfl
  | p :: L, h => by
    rw [List.flatMap_cons, cp_app, cp_blk p (h p (List.mem_cons_self ..)), cp_flat x fun q hq => h q (List.mem_cons_of_mem _ hq), List.map_cons, List.sum_cons]
/-- each row's matches are all met -/
theorem cp_all {n : Nat} {R : List Row} (hs : Srt R) {fs : List Int} (hl : fs.length = R.length) (h : ∀ p ∈ R.zip fs, Fit n p) {x : Row} (hx : x ∈ R) : cp ((R.zip fs).flatMap blk) x = x.c := by
  rw [cp_flat x h]
  have e : ((R.zip fs).map fun p => if (p.1.a, p.1.b) = (x.a, x.b) then p.1.c else 0) = R.map fun y => if (y.a, y.b) = (x.a, x.b) then y.c else 0 := by
    have e2 : (R.zip fs).map (fun p => p.1) = R := List.map_fst_zip (by omega)
    conv => rhs; rw [← e2]
    rw [List.map_map]
    rfl
  rw [e]
  clear e h hl
  induction R with
  | nil => cases hx
  | cons y R ih =>
    have h' := List.pairwise_cons.mp hs
    rw [List.map_cons, List.sum_cons]
    have zero : ∀ {R : List Row}, (∀ z ∈ R, (z.a, z.b) ≠ (x.a, x.b)) → (R.map fun y => if (y.a, y.b) = (x.a, x.b) then y.c else 0).sum = 0 := fun {R} h => by
      induction R with
      | nil => rfl
      | cons z R ih2 =>
        rw [List.map_cons, List.sum_cons, ih2 fun u hu => h u (List.mem_cons_of_mem _ hu), if_neg (h z (List.mem_cons_self ..))]
        rfl
    rcases List.mem_cons.mp hx with z | z
    · subst z
      rw [if_pos rfl, zero fun u hu => srt_ne (h'.1 u hu)]
      omega
    · rw [if_neg fun q => srt_ne (h'.1 x z) q.symm, ih h'.2 z]
      omega
theorem stR_end {n : Nat} {R : List Row} (hs : Srt R) {fs : List Int} (hl : fs.length = R.length) (h : ∀ p ∈ R.zip fs, Fit n p) {M : List Mt} (hm : M.Perm ((R.zip fs).flatMap blk)) : stR R M = [] := by
  unfold stR
  rw [List.filterMap_eq_nil_iff]
  intro x hx
  have e : cp M x = x.c := by
    rw [← cp_all hs hl h hx]
    unfold cp
    rw [hm.countP_eq]
  rw [e, if_neg (by omega)]
theorem stW_perm (W : List Int) {M N : List Mt} (h : M.Perm N) : stW W M = stW W N := by
  unfold stW cw
  simp only [h.countP_eq]
theorem mem_blk {n : Nat} {R : List Row} {fs : List Int} (h : ∀ p ∈ R.zip fs, Fit n p) {m : Mt} (hm : m ∈ (R.zip fs).flatMap blk) : m.1 < n ∧ m.2 < n ∧ ∃ x ∈ R, pr m.1 m.2 = (x.a, x.b) := by
  obtain ⟨p, hp, hm⟩ := List.mem_flatMap.mp hm
  obtain ⟨h1, h2, _, _, _⟩ := h p hp
  obtain ⟨q1, q2⟩ := pr_lt h1
  have hx := (List.of_mem_zip hp).1
  unfold blk at hm
  rcases List.mem_append.mp hm with z | z
  · rw [(List.mem_replicate.mp z).2]
    exact ⟨Nat.lt_trans h1 h2, h2, p.1, hx, q1⟩
  · rw [(List.mem_replicate.mp z).2]
    exact ⟨h2, Nat.lt_trans h1 h2, p.1, hx, q2⟩
end L11
namespace L11
open PySem PySem.Spec PyProof.Rows L2 PD
/-! no side wins too often -/
theorem sum_le {α : Type} {f g : α → Int} : ∀ {xs : List α}, (∀ x ∈ xs, f x ≤ g x) → (xs.map f).sum ≤ (xs.map g).sum
  | [], _ => Int.le_refl _
  | x :: xs, h => by
    rw [List.map_cons, List.map_cons, List.sum_cons, List.sum_cons]
    have h1 := h x (List.mem_cons_self ..)
    have h2 := sum_le fun y hy => h y (List.mem_cons_of_mem _ hy)
    omega
theorem sum_add {α : Type} (f g : α → Int) : ∀ xs : List α, (xs.map fun x => f x + g x).sum = (xs.map f).sum + (xs.map g).sum
  | [] => rfl
  | x :: xs => by
    rw [List.map_cons, List.map_cons, List.map_cons, List.sum_cons, List.sum_cons, List.sum_cons, sum_add f g xs]
    omega
theorem sum_mul {α : Type} (k : Int) (f : α → Int) : ∀ xs : List α, (xs.map fun x => k * f x).sum = k * (xs.map f).sum
  | [] => by simp
  | x :: xs => by
    rw [List.map_cons, List.map_cons, List.sum_cons, List.sum_cons, sum_mul k f xs, Int.mul_add]
/-- the match of i and j, none of i and i -/
def tj (i j : Nat) (x : Row) : Int := if j = i then 0 else hit x (pr i j)
def h2 (a b : Nat) (p : Mt) : Int := if (a, b) = p then 1 else 0
theorem six : ∀ a < 6, ∀ b < 6, ∀ i < 6, a < b → (if i = a ∨ i = b then (1 : Int) else 0) ≤ (if 0 = i then 0 else h2 a b (pr i 0)) + ((if 1 = i then 0 else h2 a b (pr i 1)) + ((if 2 = i then 0 else h2 a b (pr i 2)) + ((if 3 = i then 0 else h2 a b (pr i 3)) + ((if 4 = i then 0 else h2 a b (pr i 4)) + (if 5 = i then 0 else h2 a b (pr i 5)))))) := by decide
theorem tj_sum {R : List Row} (h : Srt R) (i j : Nat) : (R.map (tj i j)).sum ≤ if j = i then 0 else 1 := by
  by_cases e : j = i
  · rw [if_pos e]
    have z : (R.map (tj i j)).sum ≤ (R.map fun _ => 0).sum := sum_le fun x _ => by unfold tj; rw [if_pos e]; exact Int.le_refl _
    have z2 : (R.map fun _ => (0 : Int)).sum = 0 := by
      clear z h
      induction R with
      | nil => rfl
      | cons x R ih => rw [List.map_cons, List.sum_cons, ih]; rfl
    omega
  · rw [if_neg e]
    have z : R.map (tj i j) = R.map fun x => hit x (pr i j) := by
      congr 1
      funext x
      exact if_neg e
    rw [z]
    exact hits_le h _
theorem inc_le {R : List Row} (h : Srt R) (hr : ∀ x ∈ R, x.a < x.b ∧ x.b < 6) {i : Nat} (hi : i < 6) : (R.map fun x => if i = x.a ∨ i = x.b then (1 : Int) else 0).sum ≤ 5 := by
  have e : (R.map fun x => if i = x.a ∨ i = x.b then (1 : Int) else 0).sum ≤ (R.map fun x => tj i 0 x + (tj i 1 x + (tj i 2 x + (tj i 3 x + (tj i 4 x + tj i 5 x))))).sum := sum_le fun x hx => by
    obtain ⟨h1, h2⟩ := hr x hx
    exact six x.a (by omega) x.b h2 i hi h1
  rw [sum_add, sum_add, sum_add, sum_add, sum_add] at e
  have q0 := tj_sum h i 0
  have q1 := tj_sum h i 1
  have q2 := tj_sum h i 2
  have q3 := tj_sum h i 3
  have q4 := tj_sum h i 4
  have q5 := tj_sum h i 5
  have hi' : i = 0 ∨ i = 1 ∨ i = 2 ∨ i = 3 ∨ i = 4 ∨ i = 5 := by omega
  rcases hi' with z | z | z | z | z | z <;> subst z <;> simp at q0 q1 q2 q3 q4 q5 <;> omega
theorem cw_flat {n : Nat} (i : Nat) : ∀ {L : List (Row × Int)}, (∀ p ∈ L, Fit n p) → cw (L.flatMap blk) i ≤ (L.map fun p => 9 * if i = p.1.a ∨ i = p.1.b then (1 : Int) else 0).sum
  | [], _ => Int.le_refl _
  | p :: L, h => by
    have hp := h p (List.mem_cons_self ..)
    rw [List.flatMap_cons, cw_app, cw_blk p hp, List.map_cons, List.sum_cons]
    have ih := cw_flat i fun q hq => h q (List.mem_cons_of_mem _ hq)
    obtain ⟨h1, h2, h3, h4, h5⟩ := hp
    have e : (if p.1.a = i then p.2 else 0) + (if p.1.b = i then p.1.c - p.2 else 0) ≤ 9 * if i = p.1.a ∨ i = p.1.b then (1 : Int) else 0 := by
      by_cases ha : p.1.a = i
      · have hb : p.1.b ≠ i := by omega
        rw [if_pos ha, if_neg hb, if_pos (.inl ha.symm)]
        omega
      · by_cases hb : p.1.b = i
        · rw [if_neg ha, if_pos hb, if_pos (.inr hb.symm)]
          omega
        · rw [if_neg ha, if_neg hb, if_neg (by omega)]
          omega
    omega
theorem cw_bound {n : Nat} {R : List Row} (hs : Srt R) (hn : n ≤ 6) {fs : List Int} (hl : fs.length = R.length) (h : ∀ p ∈ R.zip fs, Fit n p) (hr : ∀ x ∈ R, x.a < x.b ∧ x.b < n) {i : Nat} (hi : i < n) : cw ((R.zip fs).flatMap blk) i ≤ 45 := by
  have q := cw_flat i h
  have e : ((R.zip fs).map fun p => 9 * if i = p.1.a ∨ i = p.1.b then (1 : Int) else 0) = R.map fun x => 9 * if i = x.a ∨ i = x.b then (1 : Int) else 0 := by
    have e2 : (R.zip fs).map (fun p => p.1) = R := List.map_fst_zip (by omega)
    conv => rhs; rw [← e2]
    rw [List.map_map]
    rfl
  rw [e, sum_mul] at q
  have q2 := inc_le hs (fun x hx => ⟨(hr x hx).1, by have := (hr x hx).2; omega⟩) (i := i) (by omega)
  omega
/-! a step -/
structure Play (W : List Int) (R : List Row) (fs : List Int) : Prop where
  ok : Ok W R
  w6 : ∀ x ∈ W, x ≤ 6
  hl : fs.length = R.length
  f : ∀ p ∈ R.zip fs, Fit W.length p
section
variable {W : List Int} {R : List Row} {fs : List Int} {M P rest : List Mt} {m : Mt}
theorem getD_mem {W : List Int} {i : Nat} (h : i < W.length) : W.getD i 0 ∈ W := by
  rw [List.getD_eq_getElem?_getD, List.getElem?_eq_getElem h]
  exact List.getElem_mem h
theorem cw_le {P Q : List Mt} (i : Nat) : cw P i ≤ cw (P ++ Q) i := by
  rw [cw_app]
  have := cw_nn Q i
  omega
theorem st_ok (h : Play W R fs) (hM : M.Perm ((R.zip fs).flatMap blk)) (e : M = P ++ rest) : Ok (stW W P) (stR R P) := by
  have h6 := h.ok.n6
  refine ⟨by rw [stW_len]; exact h.ok.n2, by rw [stW_len]; exact h6, fun x hx => ?_, fun x hx => ?_, ?_, ?_⟩
  · unfold stW at hx
    obtain ⟨i, hi, rfl⟩ := List.mem_map.mp hx
    have hi' := List.mem_range.mp hi
    have a1 := h.w6 _ (getD_mem hi')
    have a2 := h.ok.w _ (getD_mem hi')
    have a3 := cw_nn P i
    have a4 : cw P i ≤ cw M i := by rw [e]; exact cw_le i
    have a5 : cw M i = cw ((R.zip fs).flatMap blk) i := by unfold cw; rw [hM.countP_eq]
    have a6 := cw_bound h.ok.s h6 h.hl h.f (fun x hx => ⟨(h.ok.r x hx).1, (h.ok.r x hx).2.1⟩) hi'
    omega
  · unfold stR at hx
    obtain ⟨y, hy, q⟩ := List.mem_filterMap.mp hx
    split at q
    · rename_i hc
      cases q
      obtain ⟨b1, b2, b3, b4⟩ := h.ok.r y hy
      have := cp_nn P y
      exact ⟨b1, by rw [stW_len]; exact b2, hc, by show y.c - cp P y ≤ 9; omega⟩
    · cases q
  · unfold stR
    refine List.Pairwise.filterMap _ (fun x x' hR y hy y' hy' => ?_) h.ok.s
    split at hy <;> cases hy
    split at hy' <;> cases hy'
    exact hR
  · have := List.length_filterMap_le (fun x : Row => if 0 < x.c - cp P x then some (⟨x.a, x.b, x.c - cp P x⟩ : Row) else none) R
    have := h.ok.l
    unfold stR
    omega
theorem st_can (h : Play W R fs) (hM : M.Perm ((R.zip fs).flatMap blk)) (e : M = P ++ m :: rest) : Can (stW W P) (stR R P) m.1 m.2 := by
  have h6 := h.ok.n6
  have hm : m ∈ (R.zip fs).flatMap blk := hM.mem_iff.mp (by rw [e]; simp)
  obtain ⟨m1, m2, x, hx, hp⟩ := mem_blk h.f hm
  refine ⟨by rw [stW_len]; exact m1, by rw [stW_len]; exact m2, ⟨(stW W P).getD m.1 0, getD_some (by rw [stW_len]; exact m1), ?_⟩, ?_⟩
  · rw [stW_get _ _ m1]
    have a1 := h.w6 _ (getD_mem m1)
    have a4 : cw P m.1 ≤ cw M m.1 := by rw [e]; exact cw_le m.1
    have a5 : cw M m.1 = cw ((R.zip fs).flatMap blk) m.1 := by unfold cw; rw [hM.countP_eq]
    have a6 := cw_bound h.ok.s h6 h.hl h.f (fun x hx => ⟨(h.ok.r x hx).1, (h.ok.r x hx).2.1⟩) m1
    omega
  · have c1 : cp M x = x.c := by
      rw [← cp_all h.ok.s h.hl h.f hx]
      unfold cp
      rw [hM.countP_eq]
    have c2 : cp M x = cp P x + (1 + cp rest x) := by
      rw [e, cp_app, ← List.singleton_append, cp_app, cp_one, if_pos hp]
    have c3 := cp_nn rest x
    refine ⟨⟨x.a, x.b, x.c - cp P x⟩, ?_, hp.symm⟩
    unfold stR
    exact List.mem_filterMap.mpr ⟨x, hx, if_pos (by omega)⟩
theorem leftOf_eq (R : List Row) (i : Nat) : leftOf R i = (R.map fun x => if i = x.a ∨ i = x.b then x.c else 0).sum := by
  unfold leftOf
  induction R with
  | nil => rfl
  | cons x R ih =>
    rw [List.map_cons, List.sum_cons, ← ih, List.filter_cons]
    by_cases e : i = x.a ∨ i = x.b
    · rw [decide_eq_true e, if_pos rfl, if_pos e, List.map_cons, List.sum_cons]
    · rw [decide_eq_false e, if_neg (by decide), if_neg e]
      omega
theorem playR_left (R : List Row) (p : Mt) (i : Nat) (hc : ∀ x ∈ R, 1 ≤ x.c) : leftOf (playR R p) i = (R.map fun x => if i = x.a ∨ i = x.b then x.c - hit x p else 0).sum := by
  rw [leftOf_eq]
  unfold playR
  induction R with
  | nil => rfl
  | cons x R ih =>
    have ih := ih fun y hy => hc y (List.mem_cons_of_mem _ hy)
    have h1 := hc x (List.mem_cons_self ..)
    have h2 : hit x p = 0 ∨ hit x p = 1 := by unfold hit; split <;> simp
    rw [List.filterMap_cons, List.map_cons, List.sum_cons, ← ih]
    by_cases q : 0 < x.c - hit x p
    · rw [if_pos q]
      show (List.map _ (_ :: _)).sum = _
      rw [List.map_cons, List.sum_cons]
    · rw [if_neg q]
      have z : x.c - hit x p = 0 := by omega
      rw [z]
      show _ = (if _ then (0 : Int) else 0) + _
      rw [ite_self, Int.zero_add]
theorem left_step {R : List Row} (hs : Srt R) (hr : ∀ x ∈ R, x.a < x.b ∧ 1 ≤ x.c) {w l : Nat} (hx : ∃ x ∈ R, (x.a, x.b) = pr w l) : leftOf (playR R (pr w l)) w = leftOf R w - 1 := by
  rw [playR_left R _ _ fun x hx => (hr x hx).2, leftOf_eq]
  have e : (R.map fun x => if w = x.a ∨ w = x.b then x.c else 0).sum = (R.map fun x => (if w = x.a ∨ w = x.b then x.c - hit x (pr w l) else 0) + hit x (pr w l)).sum := by
    congr 1
    refine List.map_congr_left fun x hx => ?_
    by_cases z : w = x.a ∨ w = x.b
    · rw [if_pos z, if_pos z]
      omega
    · rw [if_neg z, if_neg z]
      have q : hit x (pr w l) = 0 := if_neg fun q => z (by
        have q1 := congrArg Prod.fst q
        have q2 := congrArg Prod.snd q
        have q1 : x.a = min w l := q1
        have q2 : x.b = max w l := q2
        omega)
      omega
  rw [e, sum_add]
  have a := hits_le hs (pr w l)
  have b := hits_ge hx
  omega
theorem sum_addAt : ∀ {W : List Int} {i : Nat} (v : Int), i < W.length → (addAt W i v).sum = W.sum + v
  | [], i, v, h => absurd h (by simp)
  | x :: W, 0, v, h => by
    show (x + v + W.sum : Int) = x + W.sum + v
    omega
  | x :: W, i + 1, v, h => by
    have ih := sum_addAt (W := W) (i := i) v (by simpa using h)
    show (x + (addAt W i v).sum : Int) = x + W.sum + v
    omega
/-! the first place -/
theorem minI_ok {m : Int} : ∀ {ns : List Int}, m ∈ ns → (∀ y ∈ ns, m ≤ y) → minI ns = some m
  | [], h, _ => absurd h (by simp)
  | [i], h, _ => by
    have e : m = i := by simpa using h
    rw [e]
    rfl
  | i :: j :: r, h, hy => by
    have e : minI (i :: j :: r) = (minI (j :: r)).map fun m => if m < i then m else i := rfl
    rw [e]
    by_cases hm : m ∈ j :: r
    · rw [minI_ok hm fun y h => hy y (List.mem_cons_of_mem _ h), Option.map_some]
      have := hy i (List.mem_cons_self ..)
      congr 1
      split <;> omega
    · have e1 : m = i := by
        rcases List.mem_cons.mp h with z | z
        · exact z
        · exact absurd z hm
      have ne : j :: r ≠ [] := by simp
      obtain ⟨k, hk⟩ : ∃ k, minI (j :: r) = some k ∧ k ∈ j :: r := by
        clear e h hy hm e1
        induction r generalizing j with
        | nil => exact ⟨j, rfl, by simp⟩
        | cons a r ih =>
          obtain ⟨k, h1, h2⟩ := ih a (by simp)
          refine ⟨if k < j then k else j, ?_, ?_⟩
          · show (minI (a :: r)).map _ = _
            rw [h1]
            rfl
          · split
            · exact List.mem_cons_of_mem _ h2
            · exact List.mem_cons_self ..
      rw [hk.1, Option.map_some]
      have := hy k (List.mem_cons_of_mem _ hk.2)
      congr 1
      split <;> omega
theorem max_mem : ∀ {W : List Int}, W ≠ [] → ∃ x ∈ W, ∀ y ∈ W, y ≤ x
  | [], h => absurd rfl h
  | [x], _ => ⟨x, by simp, fun y hy => by simp at hy; omega⟩
  | x :: y :: r, _ => by
    obtain ⟨m, h1, h2⟩ := max_mem (W := y :: r) (by simp)
    by_cases q : m ≤ x
    · exact ⟨x, List.mem_cons_self .., fun z hz => by
        rcases List.mem_cons.mp hz with e | e
        · omega
        · have := h2 z e; omega⟩
    · exact ⟨m, List.mem_cons_of_mem _ h1, fun z hz => by
        rcases List.mem_cons.mp hz with e | e
        · omega
        · exact h2 z e⟩
theorem min_place {W : List Int} (h : W ≠ []) : minI (placesOf W) = some 1 := by
  obtain ⟨x, hx, hm⟩ := max_mem h
  refine minI_ok ?_ fun y hy => ?_
  · unfold placesOf
    refine List.mem_map.mpr ⟨x, hx, ?_⟩
    have e : W.filter (fun y => decide (x < y)) = [] := List.filter_eq_nil_iff.mpr fun y hy => by
      have := hm y hy
      simp
      omega
    rw [e]
    rfl
  · unfold placesOf at hy
    obtain ⟨o, _, rfl⟩ := List.mem_map.mp hy
    omega
theorem places_at (W : List Int) : placesOf W = (List.range W.length).map fun i => 1 + ((W.filter fun x => decide (W.getD i 0 < x)).length : Int) := by
  unfold placesOf
  refine List.ext_getElem (by simp) fun i h1 h2 => ?_
  have hi : i < W.length := by simpa using h1
  have e : W.getD i 0 = W[i] := by
    rw [List.getD_eq_getElem?_getD, List.getElem?_eq_getElem hi]
    rfl
  rw [List.getElem_map, List.getElem_map, List.getElem_range, e]
end
end L11
namespace L11
open PySem PySem.Spec PyProof.Rows L2 PD
theorem rep1 (x : PyData) {f : Int} (h0 : 0 ≤ f) (h1 : f ≤ 1000) : opRep (.ok (.list [x])) f = .ok (.fr (List.replicate f.toNat x)) := by
  obtain ⟨k, rfl⟩ : ∃ k : Nat, f = (k : Int) := ⟨f.toNat, by omega⟩
  rw [rep_ok (by simp [cap]; omega) (by simp [cap]; omega), Int.toNat_natCast]
  congr 2
  rw [List.flatten_eq_flatMap]
  clear h0 h1
  induction k with
  | zero => rfl
  | succ k ih => rw [List.replicate_succ, List.flatMap_cons, ih]; rfl
theorem zip_snoc {α β : Type} : ∀ {R : List α} {fs : List β} {x : α} {f : β}, R[fs.length]? = some x → R.zip (fs ++ [f]) = R.zip fs ++ [(x, f)]
  | [], fs, x, f, h => by simp at h
  | y :: R, [], x, f, h => by
    have e : y = x := by simpa using h
    subst e
    simp
  | y :: R, g :: fs, x, f, h => by
    have h' : R[fs.length]? = some x := by simpa using h
    show (y, g) :: R.zip (fs ++ [f]) = _
    rw [zip_snoc h']
    rfl
theorem Dm (m : Mt) : Dt.D m = .tuple [.int (m.1 : Int), .int (m.2 : Int)] := rfl
theorem blk_len (p : Row × Int) {n : Nat} (h : Fit n p) : (blk p).length ≤ 9 := by
  obtain ⟨h1, h2, h3, h4, h5⟩ := h
  unfold blk
  rw [List.length_append, List.length_replicate, List.length_replicate]
  omega
theorem blk_D (p : Row × Int) : (blk p).map Dt.D = List.replicate p.2.toNat (PyData.tuple [.int (p.1.a : Int), .int (p.1.b : Int)]) ++ List.replicate (p.1.c - p.2).toNat (PyData.tuple [.int (p.1.b : Int), .int (p.1.a : Int)]) := by
  unfold blk
  rw [List.map_append, List.map_replicate, List.map_replicate]
  rfl
structure Sst where
  fs : List Int
  ms : List Mt
  a : L
  b : L
  c : L
  d : L
  e : L
def firstV (more : Int) (i : Nat) (x : Row) : Int := dr more (20 + (i : Int)) % (x.c + 1)
def sstep (R : List Row) (more : Int) (s : Sst) (i : Nat) : Sst :=
  let x := R.getD i ⟨0, 1, 1⟩
  ⟨s.fs ++ [firstV more i x], s.ms ++ blk (x, firstV more i x), .d (.int (i : Int)), .d (.int (firstV more i x)), .d (.int (x.a : Int)), .d (.int (x.b : Int)), .d (.int x.c)⟩
section
variable {W : List Int} {R : List Row}
/-- the season is drawn, its matches are told -/
theorem season_loop (h : Ok W R) (more : Int) (l0 l1 l5 l9 l10 l14 l15 l16 l17 : L) (s : Sst) (hf : s.fs = []) (hm : s.ms = []) :
    ∃ s2 : Sst, forGo (gNm 4) b_law_1 ((List.range R.length).map fun (i : Nat) => PyData.int (i : Int)) [l0, l1, .d (.int more), .d (lg W R), s.a, l5, .d (.tuple (s.fs.map .int)), .own (s.ms.map Dt.D), s.b, l9, l10, s.c, s.d, s.e, l14, l15, l16, l17]
        = .ok (.nx [l0, l1, .d (.int more), .d (lg W R), s2.a, l5, .d (.tuple (s2.fs.map .int)), .own (s2.ms.map Dt.D), s2.b, l9, l10, s2.c, s2.d, s2.e, l14, l15, l16, l17])
      ∧ s2.fs.length = R.length ∧ (∀ p ∈ R.zip s2.fs, Fit W.length p) ∧ s2.ms = (R.zip s2.fs).flatMap blk ∧ s2.ms.length ≤ 900 := by
  have lp := forGo_T (α := Nat) (σ := Sst) (g := gNm 4) (body := b_law_1) (fun i => PyData.int (i : Int))
    (fun s => [l0, l1, .d (.int more), .d (lg W R), s.a, l5, .d (.tuple (s.fs.map .int)), .own (s.ms.map Dt.D), s.b, l9, l10, s.c, s.d, s.e, l14, l15, l16, l17]) (sstep R more)
    (fun i s => s.fs.length = i ∧ (∀ p ∈ R.zip s.fs, Fit W.length p) ∧ s.ms = (R.zip s.fs).flatMap blk ∧ s.ms.length ≤ 9 * i) (xs := List.range R.length) (n := 0) (s := s)
    ⟨by rw [hf]; rfl, by rw [hf]; simp, by rw [hf, hm]; simp, by rw [hm]; simp⟩ fun i s x hx hi => by
      have e : x = i ∧ i < R.length := by
        obtain ⟨h1, h2⟩ := List.getElem?_eq_some_iff.mp hx
        rw [List.getElem_range] at h2
        rw [List.length_range] at h1
        exact ⟨h2.symm, h1⟩
      obtain ⟨rfl, hi2⟩ := e
      rw [Nat.zero_add] at hi ⊢
      obtain ⟨p1, p2, p3, p4⟩ := hi
      have hl := h.l
      obtain ⟨y, hy⟩ : ∃ y, R[x]? = some y := ⟨_, List.getElem?_eq_getElem hi2⟩
      have hyd : R.getD x ⟨0, 1, 1⟩ = y := by rw [List.getD_eq_getElem?_getD, hy]; rfl
      obtain ⟨r1, r2, r3, r4⟩ := h.r y (List.mem_of_getElem? hy)
      have a1 : atI (R.map Dt.D) (x : Int) = some (.tuple [.int (y.a : Int), .int (y.b : Int), .int y.c]) := at_nat (by rw [List.getElem?_map, hy]; rfl)
      generalize hfv : firstV more x y = f
      have f0 : 0 ≤ f := by rw [← hfv]; exact Int.emod_nonneg _ (by omega)
      have f1 : f < y.c + 1 := by rw [← hfv]; exact Int.emod_lt_of_pos _ (by omega)
      have hfv2 : dr more (20 + (x : Int)) % (y.c + 1) = f := hfv
      have fit : Fit W.length (y, f) := ⟨r1, r2, f0, by show f ≤ y.c; omega, r4⟩
      have zs : R.zip (s.fs ++ [f]) = R.zip s.fs ++ [(y, f)] := zip_snoc (by rw [p1]; exact hy)
      have bl := blk_len (y, f) fit
      have st : sstep R more s x = ⟨s.fs ++ [f], s.ms ++ blk (y, f), .d (.int (x : Int)), .d (.int f), .d (.int (y.a : Int)), .d (.int (y.b : Int)), .d (.int y.c)⟩ := by
        unfold sstep
        rw [hyd]
        simp only [hfv]
      rw [st]
      refine ⟨_, rfl, .inl ?_, by simp [p1], ?_, ?_, ?_⟩
      · have lf : s.fs.length ≤ 100 := by omega
        have bd := blk_D (y, f)
        have lb := blk_len (y, f) fit
        unfold blk at lb
        rw [List.length_append, List.length_replicate, List.length_replicate] at lb
        simp only at lb bd
        rw [b_law_1]
        simp only [ap_sSeq, ap_sNil, ap_sRet, ap_sRetN, ap_sCt, ap_sBk, ap_sRaise, ap_sExp, ap_sAsg, putL_d, putL_fr, ap_sIf, ap_sFor, ap_sUnp, un1_ok, ap_sPar, par2_nx, ap_sApp, ap_sExt, ext2_fr, ext2_d, ap_onOwn, on1_own, ap_sSto, sto2_int, sto3_some, fz1_d, fz1_un, fz1_own, ap_fzE_nil, ap_fzE, sq_nx, sq_rt, sq_bk, sq_ct, sq_ex, sq_stuck, okb, exb, stb, ap_eC, vr_d, vr_own, ap_eVar, ap_eBin, ap_eUn, ap_aNil, ap_aCons, ap_eFz, fzL_d, fzL_fr, fz_d, fz_fr, rd_d, rd_fr, rd_own, allD_nil, allD_cons, ap_eTup, ap_eLst, ap_eCall, ap_eBi, boolL_d, ap_tVal, ap_tAn, ap_tOr, ap_tNt, ap_tTrue, ap_eIf, ap_eAn, ap_eOr, ap_eNt, ap_eChain, ap_okB, ap_okI, add_i, sub_i, mul_i, lt_i, le_i, gt_i, ge_i, bLen_t, bLen_l, bLen_f, bLen_o, bLen_s, bInt_i, bInt_b, bList_t, bList_l, bList_f, bList_o, bTuple_t, bTuple_l, bTuple_f, bTuple_o, bMax_2, bMin_2, ix1_some, ix_t, ix_l, ix_f, ix_o, ix_s, at_0, at_1, at_2, ap_oNone, o1_i, ap_oSome, ap_eSl, sl_t, sl_l, sl_f, sl_o, itL_t, itL_l, ap_iEx, ap_iEn, ap_iZp, zipL_t, zipL_l, ap_iR1, ap_iR2, int1_i, ap_gNm, ap_gTp, ap_gAll_nil, ap_gAll, semR_nx, semR_rt, List.getElem?_cons_zero, List.getElem?_cons_succ, List.set_cons_zero, List.set_cons_succ, List.length_cons, List.length_nil, if_true, if_false, Bool.not_true, Bool.not_false, Bool.false_eq_true, List.append_nil, List.nil_append, List.cons_append, reduceIte, isi_ii, isi_ib, isi_bi, isi_bb, isi_tt, isi_tl, isi_ll, isi_lt, isi_ss, and_d, or_d, and_b, or_b, Bool.or_false, Bool.false_or, Bool.or_true, Bool.true_or, Bool.and_true, Bool.true_and, Bool.and_false, Bool.false_and, wipe_nil, wipe_cons, D_nat, D_int, Nat.reduceAdd, Nat.reduceLeDiff, lm_ok, add_t, add_of, add_ff, add_df, add_dd, add_od, add_fd, Int.cast_ofNat_Int, Int.natCast_zero, Int.natCast_one, Nat.zero_add, Nat.zero_le, a1, e24, mod_i (show 0 < y.c + 1 by omega), hfv2, List.length_map, lm_ok (show s.fs.length + 1 ≤ 100000 by omega), mul_fr, rep1 _ f0 (by omega), rep1 _ (show 0 ≤ y.c - f by omega) (by omega), List.length_replicate, List.length_append, lm_ok (show s.ms.length + f.toNat ≤ 100000 by omega), lm_ok (show s.ms.length + f.toNat + (y.c - f).toNat ≤ 100000 by omega), List.map_append, bd, List.append_assoc]
        rfl
      · intro p hp
        simp only [zs] at hp
        rcases List.mem_append.mp hp with q | q
        · exact p2 p q
        · have e : p = (y, f) := by simpa using q
          rw [e]
          exact fit
      · simp only [zs]
        rw [List.flatMap_append, ← p3]
        simp
      · simp only [List.length_append]
        omega
  obtain ⟨h1, h2, h3, h4, h5⟩ := lp
  rw [List.length_range, Nat.zero_add] at h2 h5
  exact ⟨_, h1, h2, h3, h4, by have := h.l; omega⟩
/-! one order -/
theorem lg_ne (W : List Int) (R : List Row) : opEq true (.d (lg W R)) (.d (lg W R)) = .ok (.d (.bool false)) := by
  rw [ne_D (α := Tp Int × Tp Row) (a := (⟨W⟩, ⟨R⟩)) (b := (⟨W⟩, ⟨R⟩)) (by decide) rfl rfl, decide_eq_true rfl]
  rfl
theorem int_ne {i j : Int} (h : i = j) : opEq true (.d (.int i)) (.d (.int j)) = .ok (.d (.bool false)) := by
  rw [ne_D (α := Int) (a := i) (b := j) (by decide) rfl rfl, decide_eq_true h]
  rfl
abbrev Ky := Int × Mt
theorem Dk (x : Ky) : Dt.D x = .tuple [.int x.1, .tuple [.int (x.2.1 : Int), .int (x.2.2 : Int)]] := rfl
theorem sorted_keys (K : List Ky) : ∃ L : List Ky, L.Perm K ∧ bSorted2 [.own (K.map Dt.D)] = .ok (.fr (L.map Dt.D)) := by
  cases K with
  | nil =>
    refine ⟨[], .nil, ?_⟩
    show (.ok (.fr ((sortI []).map .int)) : M L) = _
    unfold sortI
    rw [List.mergeSort_nil]
    rfl
  | cons x K =>
    refine ⟨(x :: K).mergeSort (fun a b => PySem.W.dataLe false id (Dt.D a) (Dt.D b)), List.mergeSort_perm _ _, ?_⟩
    have e : sortD ((x :: K).map Dt.D) = ((x :: K).mergeSort (fun a b => PySem.W.dataLe false id (Dt.D a) (Dt.D b))).map Dt.D :=
      (List.map_mergeSort (r := fun a b : Ky => PySem.W.dataLe false id (Dt.D a) (Dt.D b)) (s := PySem.W.dataLe false id) (f := fun p : Ky => Dt.D p) (l := x :: K) fun a _ b _ => rfl).symm
    have sb : sortB ((x :: K).map Dt.D) = true := by
      unfold sortB alikeB
      rw [Bool.and_eq_true, Bool.and_eq_true, Bool.or_eq_true]
      refine ⟨List.all_eq_true.mpr fun d hd => List.all_eq_true.mpr fun d' hd' => ?_, .inl (List.all_eq_true.mpr fun d hd => ?_), List.all_eq_true.mpr fun d hd => ?_⟩
      · obtain ⟨a, _, rfl⟩ := List.mem_map.mp hd
        obtain ⟨b, _, rfl⟩ := List.mem_map.mp hd'
        simp [Dk, PySem.W.alike, PySem.W.alikeAll]
      · obtain ⟨a, _, rfl⟩ := List.mem_map.mp hd
        rfl
      · obtain ⟨a, _, rfl⟩ := List.mem_map.mp hd
        exact shaped_D (α := Ky) (by decide) a
    have r : rdInts (.own ((x :: K).map Dt.D)) = none := rfl
    show (match rdInts (.own ((x :: K).map Dt.D)) with
      | some ns => (.ok (.fr ((sortI ns).map .int)) : M L)
      | none => if sortB ((x :: K).map Dt.D) = true then .ok (.fr (sortD ((x :: K).map Dt.D))) else .stuck) = _
    rw [r]
    dsimp only
    rw [if_pos sb, e]
structure Tst where
  P : List Mt
  a : L
  b : L
  c : L
theorem play_loop {fs : List Int} (h : Play W R fs) {K : List Ky} {M : List Mt} (hM : (K.map (·.2)).Perm M) (hM2 : M = (R.zip fs).flatMap blk) (l0 l1 l2 l3 l4 l5 l6 l7 l8 l9 l11 l12 l13 l14 l15 l16 l17 : L) :
    ∃ s14 s16 : L, ∃ o15 : L, (o15 = l15 ∨ ∃ d, o15 = .d d) ∧ forGo (gTp [(gNm 14), (gNm 15)]) b_law_3 (K.map Dt.D) [l0, l1, l2, l3, l4, l5, l6, l7, l8, l9, .d (lg W R), l11, l12, l13, l14, l15, l16, l17]
      = .ok (.nx [l0, l1, l2, l3, l4, l5, l6, l7, l8, l9, .d (lg (stW W M) []), l11, l12, l13, s14, o15, s16, l17]) := by
  have hMp : (K.map (·.2)).Perm ((R.zip fs).flatMap blk) := by rw [← hM2]; exact hM
  have lp := forGo_T (α := Ky) (σ := Tst) (g := gTp [(gNm 14), (gNm 15)]) (body := b_law_3) Dt.D
    (fun s => [l0, l1, l2, l3, l4, l5, l6, l7, l8, l9, .d (lg (stW W s.P) (stR R s.P)), l11, l12, l13, s.a, s.b, s.c, l17]) (fun s x => ⟨s.P ++ [x.2], .d (.int x.1), .d (.tuple [.int (x.2.1 : Int), .int (x.2.2 : Int)]), .d (lg (stW W s.P) (stR R s.P))⟩)
    (fun i s => s.P = (K.map (·.2)).take i ∧ (s.b = l15 ∨ ∃ d, s.b = .d d)) (xs := K) (n := 0) (s := ⟨[], l14, l15, l16⟩) ⟨rfl, .inl rfl⟩ fun i s x hx hi => by
      rw [Nat.zero_add] at hi ⊢
      obtain ⟨hi, _⟩ := hi
      have hx2 : (K.map (·.2))[i]? = some x.2 := by rw [List.getElem?_map, hx]; rfl
      obtain ⟨hlt, hg⟩ := List.getElem?_eq_some_iff.mp hx2
      have sp : K.map (·.2) = s.P ++ x.2 :: (K.map (·.2)).drop (i + 1) := by
        rw [hi, ← hg, ← List.drop_eq_getElem_cons hlt, List.take_append_drop]
      have sp2 : K.map (·.2) = (s.P ++ [x.2]) ++ (K.map (·.2)).drop (i + 1) := by
        rw [List.append_assoc]
        exact sp
      have ok1 := st_ok h hMp sp
      have ok2 := st_ok h hMp sp2
      have can := st_can h hMp sp
      have w1 : x.2.1 < W.length := by have := can.hw; rw [stW_len] at this; exact this
      have sW : addAt (stW W s.P) x.2.1 1 = stW W (s.P ++ [x.2]) := step_W W s.P (l := x.2.2) w1
      have sR : playR (stR R s.P) (pr x.2.1 x.2.2) = stR R (s.P ++ [x.2]) := step_R R s.P x.2.1 x.2.2
      have pl := e9' ok1 can
      have lpl := e22 (l := x.2.2) ok1 can.hw
      rw [sW, sR] at pl lpl
      have hsum : (stW W (s.P ++ [x.2])).sum = (stW W s.P).sum + 1 := by
        rw [← sW]
        exact sum_addAt 1 can.hw
      have hleft : leftOf (stR R (s.P ++ [x.2])) x.2.1 = leftOf (stR R s.P) x.2.1 - 1 := by
        rw [← sR]
        exact left_step ok1.s (fun y hy => ⟨(ok1.r y hy).1, (ok1.r y hy).2.2.1⟩) can.hr
      have m1 := e6 ok1 can.hw
      have m2 := e6 (i := x.2.1) ok2 (by rw [stW_len]; exact w1)
      refine ⟨_, rfl, .inl ?_, ?_, .inr ⟨_, rfl⟩⟩
      · rw [b_law_3]
        simp only [ap_sSeq, ap_sNil, ap_sRet, ap_sRetN, ap_sCt, ap_sBk, ap_sRaise, ap_sExp, ap_sAsg, putL_d, putL_fr, ap_sIf, ap_sFor, ap_sUnp, un1_ok, ap_sPar, par2_nx, ap_sApp, ap_sExt, ext2_fr, ext2_d, ap_onOwn, on1_own, ap_sSto, sto2_int, sto3_some, fz1_d, fz1_un, fz1_own, ap_fzE_nil, ap_fzE, sq_nx, sq_rt, sq_bk, sq_ct, sq_ex, sq_stuck, okb, exb, stb, ap_eC, vr_d, vr_own, ap_eVar, ap_eBin, ap_eUn, ap_aNil, ap_aCons, ap_eFz, fzL_d, fzL_fr, fz_d, fz_fr, rd_d, rd_fr, rd_own, allD_nil, allD_cons, ap_eTup, ap_eLst, ap_eCall, ap_eBi, boolL_d, ap_tVal, ap_tAn, ap_tOr, ap_tNt, ap_tTrue, ap_eIf, ap_eAn, ap_eOr, ap_eNt, ap_eChain, ap_okB, ap_okI, add_i, sub_i, mul_i, lt_i, le_i, gt_i, ge_i, bLen_t, bLen_l, bLen_f, bLen_o, bLen_s, bInt_i, bInt_b, bList_t, bList_l, bList_f, bList_o, bTuple_t, bTuple_l, bTuple_f, bTuple_o, bMax_2, bMin_2, ix1_some, ix_t, ix_l, ix_f, ix_o, ix_s, at_0, at_1, at_2, ap_oNone, o1_i, ap_oSome, ap_eSl, sl_t, sl_l, sl_f, sl_o, itL_t, itL_l, ap_iEx, ap_iEn, ap_iZp, zipL_t, zipL_l, ap_iR1, ap_iR2, int1_i, ap_gNm, ap_gTp, ap_gAll_nil, ap_gAll, semR_nx, semR_rt, List.getElem?_cons_zero, List.getElem?_cons_succ, List.set_cons_zero, List.set_cons_succ, List.length_cons, List.length_nil, if_true, if_false, Bool.not_true, Bool.not_false, Bool.false_eq_true, List.append_nil, List.nil_append, List.cons_append, reduceIte, isi_ii, isi_ib, isi_bi, isi_bb, isi_tt, isi_tl, isi_ll, isi_lt, isi_ss, and_d, or_d, and_b, or_b, Bool.or_false, Bool.false_or, Bool.or_true, Bool.true_or, Bool.and_true, Bool.true_and, Bool.and_false, Bool.false_and, wipe_nil, wipe_cons, D_nat, D_int, Nat.reduceAdd, Nat.reduceLeDiff, lm_ok, add_t, add_of, add_ff, add_df, add_dd, add_od, add_fd, Int.cast_ofNat_Int, Int.natCast_zero, Int.natCast_one, Nat.zero_add, Nat.zero_le, Dk, Dm, pl, lpl, lg_ne, bSum_t, int_ne hsum, m1, m2, int_ne hleft]
      · rw [hi, ← hg]
        exact (List.take_succ_eq_append_getElem hlt).symm
  obtain ⟨q1, q2, q3⟩ := lp
  rw [Nat.zero_add, show K.length = (K.map (·.2)).length by rw [List.length_map], List.take_length] at q2
  dsimp only at q1
  rw [start_W, start_R fun x hx => (h.ok.r x hx).2.2.1, q2, stR_end h.ok.s h.hl h.f hMp, stW_perm W hM] at q1
  exact ⟨_, _, _, q3, q1⟩
end
end L11
namespace L11
open PySem PySem.Spec PyProof.Rows L2 PD
/-- no list of our own -/
def Nw (l : L) : Prop := l = .un ∨ ∃ d, l = .d d
theorem fz_nw {l : L} (h : Nw l) (env : List L) (i : Nat) : fz1 env i (some l) = env := by
  rcases h with e | ⟨d, e⟩ <;> subst e <;> rfl
theorem tp_ne (T : List Int) : opEq true (.d (.tuple (T.map .int))) (.d (.tuple (T.map .int))) = .ok (.d (.bool false)) := by
  rw [ne_D (α := Tp Int) (a := ⟨T⟩) (b := ⟨T⟩) (by decide) rfl rfl, decide_eq_true rfl]
  rfl
theorem ls_ne (T : List Int) : opEq true (.d (.list (T.map .int))) (.fr (T.map .int)) = .ok (.d (.bool false)) := by
  rw [ne_D (α := List Int) (a := T) (b := T) (by decide) rfl rfl, decide_eq_true rfl]
  rfl
theorem bMin_l (ns : List Int) : bMin [.d (.list (ns.map .int))] = oI (minI ns) := by
  show oI ((rdInts (.d (.list (ns.map .int)))).bind minI) = _
  have e : rdInts (.d (.list (ns.map PyData.int))) = some ns := intsOf_map ns
  rw [e]
  rfl
theorem oI_some (i : Int) : oI (some i) = .ok (.d (.int i)) := rfl
section
variable {W : List Int} {R : List Row} {fs : List Int} {ms : List Mt}
/-- what a turn starts with -/
abbrev te (l0 l1 : L) (more : Int) (W : List Int) (R : List Row) (l4 l5 : L) (fs : List Int) (l7 l8 l9 l10 l11 l12 l13 l14 l15 l16 : L) : List L := [l0, l1, .d (.int more), .d (lg W R), l4, l5, .d (.tuple (fs.map .int)), l7, l8, l9, l10, l11, l12, l13, l14, l15, l16, .un]
theorem keys_of (more turn : Int) (hl : ms.length ≤ 900) (l0 l1 l3 l4 l6 l8 l9 l10 l11 l12 l13 l14 l15 l16 l17 : L) :
    q_law_2 [l0, l1, .d (.int more), l3, l4, .d (.int turn), l6, .d (.list (ms.map Dt.D)), l8, l9, l10, l11, l12, l13, l14, l15, l16, l17] = .ok (.fr ((ms.zipIdx.map fun p => ((dr more (50 * turn + 40 + (p.2 : Int)), p.1) : Ky)).map Dt.D)) := by
  rw [List.map_map]
  refine eLc_map (α := Mt × Nat) (xs := ms.zipIdx) (fun p => .tuple [.int (p.2 : Nat), Dt.D p.1]) _ (by simp only [ap_sSeq, ap_sNil, ap_sRet, ap_sRetN, ap_sCt, ap_sBk, ap_sRaise, ap_sExp, ap_sAsg, putL_d, putL_fr, ap_sIf, ap_sFor, ap_sUnp, un1_ok, ap_sPar, par2_nx, ap_sApp, ap_sExt, ext2_fr, ext2_d, ap_onOwn, on1_own, ap_sSto, sto2_int, sto3_some, fz1_d, fz1_un, fz1_own, ap_fzE_nil, ap_fzE, sq_nx, sq_rt, sq_bk, sq_ct, sq_ex, sq_stuck, okb, exb, stb, ap_eC, vr_d, vr_own, ap_eVar, ap_eBin, ap_eUn, ap_aNil, ap_aCons, ap_eFz, fzL_d, fzL_fr, fz_d, fz_fr, rd_d, rd_fr, rd_own, allD_nil, allD_cons, ap_eTup, ap_eLst, ap_eCall, ap_eBi, boolL_d, ap_tVal, ap_tAn, ap_tOr, ap_tNt, ap_tTrue, ap_eIf, ap_eAn, ap_eOr, ap_eNt, ap_eChain, ap_okB, ap_okI, add_i, sub_i, mul_i, lt_i, le_i, gt_i, ge_i, bLen_t, bLen_l, bLen_f, bLen_o, bLen_s, bInt_i, bInt_b, bList_t, bList_l, bList_f, bList_o, bTuple_t, bTuple_l, bTuple_f, bTuple_o, bMax_2, bMin_2, ix1_some, ix_t, ix_l, ix_f, ix_o, ix_s, at_0, at_1, at_2, ap_oNone, o1_i, ap_oSome, ap_eSl, sl_t, sl_l, sl_f, sl_o, itL_t, itL_l, ap_iEx, ap_iEn, ap_iZp, zipL_t, zipL_l, ap_iR1, ap_iR2, int1_i, ap_gNm, ap_gTp, ap_gAll_nil, ap_gAll, semR_nx, semR_rt, List.getElem?_cons_zero, List.getElem?_cons_succ, List.set_cons_zero, List.set_cons_succ, List.length_cons, List.length_nil, if_true, if_false, Bool.not_true, Bool.not_false, Bool.false_eq_true, List.append_nil, List.nil_append, List.cons_append, reduceIte, isi_ii, isi_ib, isi_bi, isi_bb, isi_tt, isi_tl, isi_ll, isi_lt, isi_ss, and_d, or_d, and_b, or_b, Bool.or_false, Bool.false_or, Bool.or_true, Bool.true_or, Bool.and_true, Bool.true_and, Bool.and_false, Bool.false_and, wipe_nil, wipe_cons, D_nat, D_int, Nat.reduceAdd, Nat.reduceLeDiff, lm_ok, add_t, add_of, add_ff, add_df, add_dd, add_od, add_fd, Int.cast_ofNat_Int, Int.natCast_zero, Int.natCast_one, Nat.zero_add, Nat.zero_le]) (enumD_map Dt.D 0 ms) (by simp only [cap, List.length_zipIdx]; omega) fun y hx => ⟨_, rfl, ?_⟩
  simp only [ap_sSeq, ap_sNil, ap_sRet, ap_sRetN, ap_sCt, ap_sBk, ap_sRaise, ap_sExp, ap_sAsg, putL_d, putL_fr, ap_sIf, ap_sFor, ap_sUnp, un1_ok, ap_sPar, par2_nx, ap_sApp, ap_sExt, ext2_fr, ext2_d, ap_onOwn, on1_own, ap_sSto, sto2_int, sto3_some, fz1_d, fz1_un, fz1_own, ap_fzE_nil, ap_fzE, sq_nx, sq_rt, sq_bk, sq_ct, sq_ex, sq_stuck, okb, exb, stb, ap_eC, vr_d, vr_own, ap_eVar, ap_eBin, ap_eUn, ap_aNil, ap_aCons, ap_eFz, fzL_d, fzL_fr, fz_d, fz_fr, rd_d, rd_fr, rd_own, allD_nil, allD_cons, ap_eTup, ap_eLst, ap_eCall, ap_eBi, boolL_d, ap_tVal, ap_tAn, ap_tOr, ap_tNt, ap_tTrue, ap_eIf, ap_eAn, ap_eOr, ap_eNt, ap_eChain, ap_okB, ap_okI, add_i, sub_i, mul_i, lt_i, le_i, gt_i, ge_i, bLen_t, bLen_l, bLen_f, bLen_o, bLen_s, bInt_i, bInt_b, bList_t, bList_l, bList_f, bList_o, bTuple_t, bTuple_l, bTuple_f, bTuple_o, bMax_2, bMin_2, ix1_some, ix_t, ix_l, ix_f, ix_o, ix_s, at_0, at_1, at_2, ap_oNone, o1_i, ap_oSome, ap_eSl, sl_t, sl_l, sl_f, sl_o, itL_t, itL_l, ap_iEx, ap_iEn, ap_iZp, zipL_t, zipL_l, ap_iR1, ap_iR2, int1_i, ap_gNm, ap_gTp, ap_gAll_nil, ap_gAll, semR_nx, semR_rt, List.getElem?_cons_zero, List.getElem?_cons_succ, List.set_cons_zero, List.set_cons_succ, List.length_cons, List.length_nil, if_true, if_false, Bool.not_true, Bool.not_false, Bool.false_eq_true, List.append_nil, List.nil_append, List.cons_append, reduceIte, isi_ii, isi_ib, isi_bi, isi_bb, isi_tt, isi_tl, isi_ll, isi_lt, isi_ss, and_d, or_d, and_b, or_b, Bool.or_false, Bool.false_or, Bool.or_true, Bool.true_or, Bool.and_true, Bool.true_and, Bool.and_false, Bool.false_and, wipe_nil, wipe_cons, D_nat, D_int, Nat.reduceAdd, Nat.reduceLeDiff, lm_ok, add_t, add_of, add_ff, add_df, add_dd, add_od, add_fd, Int.cast_ofNat_Int, Int.natCast_zero, Int.natCast_one, Nat.zero_add, Nat.zero_le, mulK' (i := 50) (j := turn) (by decide) (by decide), e24]
  rfl
theorem turn_ok (h : Play W R fs) (hm : ms = (R.zip fs).flatMap blk) (hl : ms.length ≤ 900) (l0 l1 : L) (more turn : Int) (l4 l7 l8 l9 l10 l11 l12 l13 l14 l15 l16 : L) (h7 : l7 = .own (ms.map Dt.D) ∨ l7 = .d (.list (ms.map Dt.D))) (h15 : Nw l15) :
    ∃ m9 m10 m14 m15 m16, Nw m15 ∧ b_law_5 (te l0 l1 more W R l4 (.d (.int turn)) fs l7 l8 l9 l10 l11 l12 l13 l14 l15 l16) = .ok (.nx (te l0 l1 more W R l4 (.d (.int turn)) fs (.d (.list (ms.map Dt.D))) l8 m9 m10 l11 l12 l13 m14 m15 m16)) := by
  generalize hK : (ms.zipIdx.map fun p => ((dr more (50 * turn + 40 + (p.2 : Int)), p.1) : Ky)) = K
  have first : sAsg [2, 15, 7] 9 q_law_2 (te l0 l1 more W R l4 (.d (.int turn)) fs l7 l8 l9 l10 l11 l12 l13 l14 l15 l16) = .ok (.nx (te l0 l1 more W R l4 (.d (.int turn)) fs (.d (.list (ms.map Dt.D))) l8 (.own (K.map Dt.D)) l10 l11 l12 l13 l14 l15 l16)) := by
    rcases h7 with e | e <;> subst e <;> simp only [ap_sSeq, ap_sNil, ap_sRet, ap_sRetN, ap_sCt, ap_sBk, ap_sRaise, ap_sExp, ap_sAsg, putL_d, putL_fr, ap_sIf, ap_sFor, ap_sUnp, un1_ok, ap_sPar, par2_nx, ap_sApp, ap_sExt, ext2_fr, ext2_d, ap_onOwn, on1_own, ap_sSto, sto2_int, sto3_some, fz1_d, fz1_un, fz1_own, ap_fzE_nil, ap_fzE, sq_nx, sq_rt, sq_bk, sq_ct, sq_ex, sq_stuck, okb, exb, stb, ap_eC, vr_d, vr_own, ap_eVar, ap_eBin, ap_eUn, ap_aNil, ap_aCons, ap_eFz, fzL_d, fzL_fr, fz_d, fz_fr, rd_d, rd_fr, rd_own, allD_nil, allD_cons, ap_eTup, ap_eLst, ap_eCall, ap_eBi, boolL_d, ap_tVal, ap_tAn, ap_tOr, ap_tNt, ap_tTrue, ap_eIf, ap_eAn, ap_eOr, ap_eNt, ap_eChain, ap_okB, ap_okI, add_i, sub_i, mul_i, lt_i, le_i, gt_i, ge_i, bLen_t, bLen_l, bLen_f, bLen_o, bLen_s, bInt_i, bInt_b, bList_t, bList_l, bList_f, bList_o, bTuple_t, bTuple_l, bTuple_f, bTuple_o, bMax_2, bMin_2, ix1_some, ix_t, ix_l, ix_f, ix_o, ix_s, at_0, at_1, at_2, ap_oNone, o1_i, ap_oSome, ap_eSl, sl_t, sl_l, sl_f, sl_o, itL_t, itL_l, ap_iEx, ap_iEn, ap_iZp, zipL_t, zipL_l, ap_iR1, ap_iR2, int1_i, ap_gNm, ap_gTp, ap_gAll_nil, ap_gAll, semR_nx, semR_rt, List.getElem?_cons_zero, List.getElem?_cons_succ, List.set_cons_zero, List.set_cons_succ, List.length_cons, List.length_nil, if_true, if_false, Bool.not_true, Bool.not_false, Bool.false_eq_true, List.append_nil, List.nil_append, List.cons_append, reduceIte, isi_ii, isi_ib, isi_bi, isi_bb, isi_tt, isi_tl, isi_ll, isi_lt, isi_ss, and_d, or_d, and_b, or_b, Bool.or_false, Bool.false_or, Bool.or_true, Bool.true_or, Bool.and_true, Bool.true_and, Bool.and_false, Bool.false_and, wipe_nil, wipe_cons, D_nat, D_int, Nat.reduceAdd, Nat.reduceLeDiff, lm_ok, add_t, add_of, add_ff, add_df, add_dd, add_od, add_fd, Int.cast_ofNat_Int, Int.natCast_zero, Int.natCast_one, Nat.zero_add, Nat.zero_le, fz_nw h15, keys_of more turn hl, hK]
  have hKm : K.map (·.2) = ms := by
    rw [← hK, List.map_map]
    exact List.zipIdx_map_fst 0 ms
  obtain ⟨K2, hp, hs⟩ := sorted_keys K
  have hp2 : (K2.map (·.2)).Perm ms := by
    rw [← hKm]
    exact hp.map _
  obtain ⟨s14, s16, o15, ho, lp⟩ := play_loop h hp2 hm l0 l1 (.d (.int more)) (.d (lg W R)) l4 (.d (.int turn)) (.d (.tuple (fs.map .int))) (.d (.list (ms.map Dt.D))) l8 (.own (K.map Dt.D)) l11 l12 l13 l14 l15 l16 .un
  have hend : (R.zip fs).foldl endS W = stW W ms := by rw [end_all _ _ h.f, hm]
  have le := e20 h.ok (fs := fs)
  have en := e12 h.ok h.hl fun p hp => ⟨(h.f p hp).f0, (h.f p hp).fc⟩
  rw [hend] at le en
  have hR : stR R ms = [] := stR_end h.ok.s h.hl h.f (by rw [hm])
  have okT : Ok (stW W ms) [] := by
    have q := st_ok (P := ms) (rest := []) (M := ms) h (by rw [hm]) (by simp)
    rw [hR] at q
    exact q
  have plc := e7b okT
  have nT : stW W ms ≠ [] := fun z => by
    have q := okT.n2
    rw [z] at q
    simp at q
  have lT : (stW W ms).length ≤ 100 := by have := okT.n6; omega
  have mp := min_place nT
  have pat := places_at (stW W ms)
  have h15' : Nw o15 := by
    rcases ho with e | ⟨d, e⟩
    · rw [e]; exact h15
    · exact .inr ⟨d, e⟩
  generalize hT : stW W ms = T at *
  have z1 : opEq true (.d (lg T [])) (.d (.tuple [.tuple (T.map .int), .tuple []])) = .ok (.d (.bool false)) := lg_ne T []
  have q4 (l0 l1 l2 l3 l4 l5 l6 l7 l8 l9 l11 l12 l13 l14 l15 l16 l17 : L) : q_law_4 [l0, l1, l2, l3, l4, l5, l6, l7, l8, l9, .d (lg T []), l11, l12, l13, l14, l15, l16, l17] = .ok (.fr ((placesOf T).map .int)) := by
    rw [pat, List.map_map]
    have bT : b62 (T.length : Int) = true := b62_in (by omega) (by omega)
    refine eLc_map (α := Nat) (xs := List.range T.length) (fun i => .int (i : Int)) _ (by simp only [ap_sSeq, ap_sNil, ap_sRet, ap_sRetN, ap_sCt, ap_sBk, ap_sRaise, ap_sExp, ap_sAsg, putL_d, putL_fr, ap_sIf, ap_sFor, ap_sUnp, un1_ok, ap_sPar, par2_nx, ap_sApp, ap_sExt, ext2_fr, ext2_d, ap_onOwn, on1_own, ap_sSto, sto2_int, sto3_some, fz1_d, fz1_un, fz1_own, ap_fzE_nil, ap_fzE, sq_nx, sq_rt, sq_bk, sq_ct, sq_ex, sq_stuck, okb, exb, stb, ap_eC, vr_d, vr_own, ap_eVar, ap_eBin, ap_eUn, ap_aNil, ap_aCons, ap_eFz, fzL_d, fzL_fr, fz_d, fz_fr, rd_d, rd_fr, rd_own, allD_nil, allD_cons, ap_eTup, ap_eLst, ap_eCall, ap_eBi, boolL_d, ap_tVal, ap_tAn, ap_tOr, ap_tNt, ap_tTrue, ap_eIf, ap_eAn, ap_eOr, ap_eNt, ap_eChain, ap_okB, ap_okI, add_i, sub_i, mul_i, lt_i, le_i, gt_i, ge_i, bLen_t, bLen_l, bLen_f, bLen_o, bLen_s, bInt_i, bInt_b, bList_t, bList_l, bList_f, bList_o, bTuple_t, bTuple_l, bTuple_f, bTuple_o, bMax_2, bMin_2, ix1_some, ix_t, ix_l, ix_f, ix_o, ix_s, at_0, at_1, at_2, ap_oNone, o1_i, ap_oSome, ap_eSl, sl_t, sl_l, sl_f, sl_o, itL_t, itL_l, ap_iEx, ap_iEn, ap_iZp, zipL_t, zipL_l, ap_iR1, ap_iR2, int1_i, ap_gNm, ap_gTp, ap_gAll_nil, ap_gAll, semR_nx, semR_rt, List.getElem?_cons_zero, List.getElem?_cons_succ, List.set_cons_zero, List.set_cons_succ, List.length_cons, List.length_nil, if_true, if_false, Bool.not_true, Bool.not_false, Bool.false_eq_true, List.append_nil, List.nil_append, List.cons_append, reduceIte, isi_ii, isi_ib, isi_bi, isi_bb, isi_tt, isi_tl, isi_ll, isi_lt, isi_ss, and_d, or_d, and_b, or_b, Bool.or_false, Bool.false_or, Bool.or_true, Bool.true_or, Bool.and_true, Bool.true_and, Bool.and_false, Bool.false_and, wipe_nil, wipe_cons, D_nat, D_int, Nat.reduceAdd, Nat.reduceLeDiff, lm_ok, add_t, add_of, add_ff, add_df, add_dd, add_od, add_fd, Int.cast_ofNat_Int, Int.natCast_zero, Int.natCast_one, Nat.zero_add, Nat.zero_le, List.length_map, bT, Int.toNat_natCast]; rw [rng0]) rfl (by simp only [cap, List.length_range]; omega) fun y hx => ⟨_, rfl, ?_⟩
    have hy := List.mem_range.mp hx
    simp only [ap_sSeq, ap_sNil, ap_sRet, ap_sRetN, ap_sCt, ap_sBk, ap_sRaise, ap_sExp, ap_sAsg, putL_d, putL_fr, ap_sIf, ap_sFor, ap_sUnp, un1_ok, ap_sPar, par2_nx, ap_sApp, ap_sExt, ext2_fr, ext2_d, ap_onOwn, on1_own, ap_sSto, sto2_int, sto3_some, fz1_d, fz1_un, fz1_own, ap_fzE_nil, ap_fzE, sq_nx, sq_rt, sq_bk, sq_ct, sq_ex, sq_stuck, okb, exb, stb, ap_eC, vr_d, vr_own, ap_eVar, ap_eBin, ap_eUn, ap_aNil, ap_aCons, ap_eFz, fzL_d, fzL_fr, fz_d, fz_fr, rd_d, rd_fr, rd_own, allD_nil, allD_cons, ap_eTup, ap_eLst, ap_eCall, ap_eBi, boolL_d, ap_tVal, ap_tAn, ap_tOr, ap_tNt, ap_tTrue, ap_eIf, ap_eAn, ap_eOr, ap_eNt, ap_eChain, ap_okB, ap_okI, add_i, sub_i, mul_i, lt_i, le_i, gt_i, ge_i, bLen_t, bLen_l, bLen_f, bLen_o, bLen_s, bInt_i, bInt_b, bList_t, bList_l, bList_f, bList_o, bTuple_t, bTuple_l, bTuple_f, bTuple_o, bMax_2, bMin_2, ix1_some, ix_t, ix_l, ix_f, ix_o, ix_s, at_0, at_1, at_2, ap_oNone, o1_i, ap_oSome, ap_eSl, sl_t, sl_l, sl_f, sl_o, itL_t, itL_l, ap_iEx, ap_iEn, ap_iZp, zipL_t, zipL_l, ap_iR1, ap_iR2, int1_i, ap_gNm, ap_gTp, ap_gAll_nil, ap_gAll, semR_nx, semR_rt, List.getElem?_cons_zero, List.getElem?_cons_succ, List.set_cons_zero, List.set_cons_succ, List.length_cons, List.length_nil, if_true, if_false, Bool.not_true, Bool.not_false, Bool.false_eq_true, List.append_nil, List.nil_append, List.cons_append, reduceIte, isi_ii, isi_ib, isi_bi, isi_bb, isi_tt, isi_tl, isi_ll, isi_lt, isi_ss, and_d, or_d, and_b, or_b, Bool.or_false, Bool.false_or, Bool.or_true, Bool.true_or, Bool.and_true, Bool.true_and, Bool.and_false, Bool.false_and, wipe_nil, wipe_cons, D_nat, D_int, Nat.reduceAdd, Nat.reduceLeDiff, lm_ok, add_t, add_of, add_ff, add_df, add_dd, add_od, add_fd, Int.cast_ofNat_Int, Int.natCast_zero, Int.natCast_one, Nat.zero_add, Nat.zero_le, e21 hy lT]
    rfl
  refine ⟨.own (K.map Dt.D), .d (lg T []), s14, o15, s16, h15', ?_⟩
  rw [b_law_5, ap_sSeq, first]
  simp only [ap_sSeq, ap_sNil, ap_sRet, ap_sRetN, ap_sCt, ap_sBk, ap_sRaise, ap_sExp, ap_sAsg, putL_d, putL_fr, ap_sIf, ap_sFor, ap_sUnp, un1_ok, ap_sPar, par2_nx, ap_sApp, ap_sExt, ext2_fr, ext2_d, ap_onOwn, on1_own, ap_sSto, sto2_int, sto3_some, fz1_d, fz1_un, fz1_own, ap_fzE_nil, ap_fzE, sq_nx, sq_rt, sq_bk, sq_ct, sq_ex, sq_stuck, okb, exb, stb, ap_eC, vr_d, vr_own, ap_eVar, ap_eBin, ap_eUn, ap_aNil, ap_aCons, ap_eFz, fzL_d, fzL_fr, fz_d, fz_fr, rd_d, rd_fr, rd_own, allD_nil, allD_cons, ap_eTup, ap_eLst, ap_eCall, ap_eBi, boolL_d, ap_tVal, ap_tAn, ap_tOr, ap_tNt, ap_tTrue, ap_eIf, ap_eAn, ap_eOr, ap_eNt, ap_eChain, ap_okB, ap_okI, add_i, sub_i, mul_i, lt_i, le_i, gt_i, ge_i, bLen_t, bLen_l, bLen_f, bLen_o, bLen_s, bInt_i, bInt_b, bList_t, bList_l, bList_f, bList_o, bTuple_t, bTuple_l, bTuple_f, bTuple_o, bMax_2, bMin_2, ix1_some, ix_t, ix_l, ix_f, ix_o, ix_s, at_0, at_1, at_2, ap_oNone, o1_i, ap_oSome, ap_eSl, sl_t, sl_l, sl_f, sl_o, itL_t, itL_l, ap_iEx, ap_iEn, ap_iZp, zipL_t, zipL_l, ap_iR1, ap_iR2, int1_i, ap_gNm, ap_gTp, ap_gAll_nil, ap_gAll, semR_nx, semR_rt, List.getElem?_cons_zero, List.getElem?_cons_succ, List.set_cons_zero, List.set_cons_succ, List.length_cons, List.length_nil, if_true, if_false, Bool.not_true, Bool.not_false, Bool.false_eq_true, List.append_nil, List.nil_append, List.cons_append, reduceIte, isi_ii, isi_ib, isi_bi, isi_bb, isi_tt, isi_tl, isi_ll, isi_lt, isi_ss, and_d, or_d, and_b, or_b, Bool.or_false, Bool.false_or, Bool.or_true, Bool.true_or, Bool.and_true, Bool.true_and, Bool.and_false, Bool.false_and, wipe_nil, wipe_cons, D_nat, D_int, Nat.reduceAdd, Nat.reduceLeDiff, lm_ok, add_t, add_of, add_ff, add_df, add_dd, add_od, add_fd, Int.cast_ofNat_Int, Int.natCast_zero, Int.natCast_one, Nat.zero_add, Nat.zero_le, hs, lp, le, en, z1, tp_ne, plc, bMin_l, mp, oI_some, int_ne, q4, ls_ne]
theorem turns_ok (h : Play W R fs) (hm : ms = (R.zip fs).flatMap blk) (hl : ms.length ≤ 900) (l0 l1 : L) (more : Int) (l4 l5 l8 l9 l10 l11 l12 l13 l14 l15 l16 : L) (h15 : Nw l15) :
    ∃ m5 m7 m9 m10 m14 m15 m16, Nw m15 ∧ forGo (gNm 5) b_law_5 (rngD 0 3) (te l0 l1 more W R l4 l5 fs (.own (ms.map Dt.D)) l8 l9 l10 l11 l12 l13 l14 l15 l16) = .ok (.nx (te l0 l1 more W R l4 m5 fs m7 l8 m9 m10 l11 l12 l13 m14 m15 m16)) := by
  obtain ⟨e, h1, h2⟩ := forGo_inv (g := gNm 5) (body := b_law_5) (xs := rngD 0 3) (n := 0) (env := te l0 l1 more W R l4 l5 fs (.own (ms.map Dt.D)) l8 l9 l10 l11 l12 l13 l14 l15 l16)
    (fun _ env => ∃ m5 m7 m9 m10 m14 m15 m16, (m7 = .own (ms.map Dt.D) ∨ m7 = .d (.list (ms.map Dt.D))) ∧ Nw m15 ∧ env = te l0 l1 more W R l4 m5 fs m7 l8 m9 m10 l11 l12 l13 m14 m15 m16) (fun i x env hx hi => by
      obtain ⟨m5, m7, m9, m10, m14, m15, m16, a1, a2, rfl⟩ := hi
      obtain ⟨j, _, rfl⟩ := List.mem_map.mp (List.mem_of_getElem? hx)
      obtain ⟨n9, n10, n14, n15, n16, b1, b2⟩ := turn_ok h hm hl l0 l1 more (0 + (j : Nat)) l4 m7 l8 m9 m10 l11 l12 l13 m14 m15 m16 a1 a2
      exact ⟨_, _, rfl, .inl b2, _, _, _, _, _, _, _, .inr rfl, b1, rfl⟩) ⟨_, _, _, _, _, _, _, .inl rfl, h15, rfl⟩
  obtain ⟨m5, m7, m9, m10, m14, m15, m16, a1, a2, rfl⟩ := h2
  exact ⟨m5, m7, m9, m10, m14, m15, m16, a2, h1⟩
end
theorem map7 {W : List Int} {R : List Row} (h : Ok W R) : Ok (W.map (· % 7)) R ∧ ∀ x ∈ W.map (· % 7), x ≤ 6 := by
  refine ⟨⟨by rw [List.length_map]; exact h.n2, by rw [List.length_map]; exact h.n6, fun x hx => ?_, by rw [List.length_map]; exact h.r, h.s, h.l⟩, fun x hx => ?_⟩
  · obtain ⟨y, _, rfl⟩ := List.mem_map.mp hx
    show 0 ≤ y % 7 ∧ y % 7 ≤ 60
    omega
  · obtain ⟨y, _, rfl⟩ := List.mem_map.mp hx
    show y % 7 ≤ 6
    omega
/-- a cell of the script -/
theorem cell_ok (ns : List Int) (hn : ns.length ≤ 100) (k : Nat) (l2 l3 l4 l5 l6 l7 l8 l9 l10 l11 l12 l13 l14 l15 l16 : L) (h15 : Nw l15) :
    ∃ m2 m3 m4 m5 m6 m7 m8 m9 m10 m11 m12 m13 m14 m15 m16, Nw m15 ∧ b_law_6 [.d (scr ns), .d (.int (k : Int)), l2, l3, l4, l5, l6, l7, l8, l9, l10, l11, l12, l13, l14, l15, l16, .un]
      = .ok (.nx [.d (scr ns), .d (.int (k : Int)), m2, m3, m4, m5, m6, m7, m8, m9, m10, m11, m12, m13, m14, m15, m16, .un]) := by
  generalize hmore : dr (cellV ns k) (k : Int) = more
  have m0 : 0 ≤ more := by rw [← hmore]; exact dr_pos _ _
  obtain ⟨W0, R, hlg, ok0⟩ := e25 (more := more / 8) (by omega)
  obtain ⟨ok, w6⟩ := map7 ok0
  generalize hW : W0.map (· % 7) = W at ok w6
  have k0 (l0 l1 l2 l4 l5 l6 l7 l8 l9 l10 l11 l12 l13 l14 l15 l16 l17 : L) : q_law_0 [l0, l1, l2, .d (lg W0 R), l4, l5, l6, l7, l8, l9, l10, l11, l12, l13, l14, l15, l16, l17] = .ok (.fr (W.map .int)) := by
    rw [← hW, List.map_map]
    refine eLc_map (α := Int) (xs := W0) .int _ (by simp only [ap_sSeq, ap_sNil, ap_sRet, ap_sRetN, ap_sCt, ap_sBk, ap_sRaise, ap_sExp, ap_sAsg, putL_d, putL_fr, ap_sIf, ap_sFor, ap_sUnp, un1_ok, ap_sPar, par2_nx, ap_sApp, ap_sExt, ext2_fr, ext2_d, ap_onOwn, on1_own, ap_sSto, sto2_int, sto3_some, fz1_d, fz1_un, fz1_own, ap_fzE_nil, ap_fzE, sq_nx, sq_rt, sq_bk, sq_ct, sq_ex, sq_stuck, okb, exb, stb, ap_eC, vr_d, vr_own, ap_eVar, ap_eBin, ap_eUn, ap_aNil, ap_aCons, ap_eFz, fzL_d, fzL_fr, fz_d, fz_fr, rd_d, rd_fr, rd_own, allD_nil, allD_cons, ap_eTup, ap_eLst, ap_eCall, ap_eBi, boolL_d, ap_tVal, ap_tAn, ap_tOr, ap_tNt, ap_tTrue, ap_eIf, ap_eAn, ap_eOr, ap_eNt, ap_eChain, ap_okB, ap_okI, add_i, sub_i, mul_i, lt_i, le_i, gt_i, ge_i, bLen_t, bLen_l, bLen_f, bLen_o, bLen_s, bInt_i, bInt_b, bList_t, bList_l, bList_f, bList_o, bTuple_t, bTuple_l, bTuple_f, bTuple_o, bMax_2, bMin_2, ix1_some, ix_t, ix_l, ix_f, ix_o, ix_s, at_0, at_1, at_2, ap_oNone, o1_i, ap_oSome, ap_eSl, sl_t, sl_l, sl_f, sl_o, itL_t, itL_l, ap_iEx, ap_iEn, ap_iZp, zipL_t, zipL_l, ap_iR1, ap_iR2, int1_i, ap_gNm, ap_gTp, ap_gAll_nil, ap_gAll, semR_nx, semR_rt, List.getElem?_cons_zero, List.getElem?_cons_succ, List.set_cons_zero, List.set_cons_succ, List.length_cons, List.length_nil, if_true, if_false, Bool.not_true, Bool.not_false, Bool.false_eq_true, List.append_nil, List.nil_append, List.cons_append, reduceIte, isi_ii, isi_ib, isi_bi, isi_bb, isi_tt, isi_tl, isi_ll, isi_lt, isi_ss, and_d, or_d, and_b, or_b, Bool.or_false, Bool.false_or, Bool.or_true, Bool.true_or, Bool.and_true, Bool.true_and, Bool.and_false, Bool.false_and, wipe_nil, wipe_cons, D_nat, D_int, Nat.reduceAdd, Nat.reduceLeDiff, lm_ok, add_t, add_of, add_ff, add_df, add_dd, add_od, add_fd, Int.cast_ofNat_Int, Int.natCast_zero, Int.natCast_one, Nat.zero_add, Nat.zero_le]) rfl (by have := ok0.n6; simp only [cap]; omega) fun y hx => ⟨_, rfl, ?_⟩
    simp only [ap_sSeq, ap_sNil, ap_sRet, ap_sRetN, ap_sCt, ap_sBk, ap_sRaise, ap_sExp, ap_sAsg, putL_d, putL_fr, ap_sIf, ap_sFor, ap_sUnp, un1_ok, ap_sPar, par2_nx, ap_sApp, ap_sExt, ext2_fr, ext2_d, ap_onOwn, on1_own, ap_sSto, sto2_int, sto3_some, fz1_d, fz1_un, fz1_own, ap_fzE_nil, ap_fzE, sq_nx, sq_rt, sq_bk, sq_ct, sq_ex, sq_stuck, okb, exb, stb, ap_eC, vr_d, vr_own, ap_eVar, ap_eBin, ap_eUn, ap_aNil, ap_aCons, ap_eFz, fzL_d, fzL_fr, fz_d, fz_fr, rd_d, rd_fr, rd_own, allD_nil, allD_cons, ap_eTup, ap_eLst, ap_eCall, ap_eBi, boolL_d, ap_tVal, ap_tAn, ap_tOr, ap_tNt, ap_tTrue, ap_eIf, ap_eAn, ap_eOr, ap_eNt, ap_eChain, ap_okB, ap_okI, add_i, sub_i, mul_i, lt_i, le_i, gt_i, ge_i, bLen_t, bLen_l, bLen_f, bLen_o, bLen_s, bInt_i, bInt_b, bList_t, bList_l, bList_f, bList_o, bTuple_t, bTuple_l, bTuple_f, bTuple_o, bMax_2, bMin_2, ix1_some, ix_t, ix_l, ix_f, ix_o, ix_s, at_0, at_1, at_2, ap_oNone, o1_i, ap_oSome, ap_eSl, sl_t, sl_l, sl_f, sl_o, itL_t, itL_l, ap_iEx, ap_iEn, ap_iZp, zipL_t, zipL_l, ap_iR1, ap_iR2, int1_i, ap_gNm, ap_gTp, ap_gAll_nil, ap_gAll, semR_nx, semR_rt, List.getElem?_cons_zero, List.getElem?_cons_succ, List.set_cons_zero, List.set_cons_succ, List.length_cons, List.length_nil, if_true, if_false, Bool.not_true, Bool.not_false, Bool.false_eq_true, List.append_nil, List.nil_append, List.cons_append, reduceIte, isi_ii, isi_ib, isi_bi, isi_bb, isi_tt, isi_tl, isi_ll, isi_lt, isi_ss, and_d, or_d, and_b, or_b, Bool.or_false, Bool.false_or, Bool.or_true, Bool.true_or, Bool.and_true, Bool.true_and, Bool.and_false, Bool.false_and, wipe_nil, wipe_cons, D_nat, D_int, Nat.reduceAdd, Nat.reduceLeDiff, lm_ok, add_t, add_of, add_ff, add_df, add_dd, add_od, add_fd, Int.cast_ofNat_Int, Int.natCast_zero, Int.natCast_one, Nat.zero_add, Nat.zero_le, mod_i (show (0 : Int) < 7 by decide)]
    rfl
  obtain ⟨s, lp, f1, f2, f3, f4⟩ := season_loop ok more (.d (scr ns)) (.d (.int (k : Int))) l5 l9 l10 l14 l15 l16 .un ⟨[], [], l4, l8, l11, l12, l13⟩ rfl rfl
  have pl : Play W R s.fs := ⟨ok, w6, f1, f2⟩
  obtain ⟨m5, m7, m9, m10, m14, m15, m16, a2, lp2⟩ := turns_ok pl f3 f4 (.d (scr ns)) (.d (.int (k : Int))) more s.a l5 s.b l9 l10 s.c s.d s.e l14 l15 l16 h15
  simp only [List.map_nil] at lp
  have bR : b62 (R.length : Int) = true := b62_in (by omega) (by have := ok.l; omega)
  have b3 : b62 3 = true := rfl
  rw [rng0] at lp2
  refine ⟨.d (.int more), .d (lg W R), s.a, m5, .d (.tuple (s.fs.map .int)), m7, s.b, m9, m10, s.c, s.d, s.e, m14, m15, m16, a2, ?_⟩
  · rw [b_law_6]
    simp only [ap_sSeq, ap_sNil, ap_sRet, ap_sRetN, ap_sCt, ap_sBk, ap_sRaise, ap_sExp, ap_sAsg, putL_d, putL_fr, ap_sIf, ap_sFor, ap_sUnp, un1_ok, ap_sPar, par2_nx, ap_sApp, ap_sExt, ext2_fr, ext2_d, ap_onOwn, on1_own, ap_sSto, sto2_int, sto3_some, fz1_d, fz1_un, fz1_own, ap_fzE_nil, ap_fzE, sq_nx, sq_rt, sq_bk, sq_ct, sq_ex, sq_stuck, okb, exb, stb, ap_eC, vr_d, vr_own, ap_eVar, ap_eBin, ap_eUn, ap_aNil, ap_aCons, ap_eFz, fzL_d, fzL_fr, fz_d, fz_fr, rd_d, rd_fr, rd_own, allD_nil, allD_cons, ap_eTup, ap_eLst, ap_eCall, ap_eBi, boolL_d, ap_tVal, ap_tAn, ap_tOr, ap_tNt, ap_tTrue, ap_eIf, ap_eAn, ap_eOr, ap_eNt, ap_eChain, ap_okB, ap_okI, add_i, sub_i, mul_i, lt_i, le_i, gt_i, ge_i, bLen_t, bLen_l, bLen_f, bLen_o, bLen_s, bInt_i, bInt_b, bList_t, bList_l, bList_f, bList_o, bTuple_t, bTuple_l, bTuple_f, bTuple_o, bMax_2, bMin_2, ix1_some, ix_t, ix_l, ix_f, ix_o, ix_s, at_0, at_1, at_2, ap_oNone, o1_i, ap_oSome, ap_eSl, sl_t, sl_l, sl_f, sl_o, itL_t, itL_l, ap_iEx, ap_iEn, ap_iZp, zipL_t, zipL_l, ap_iR1, ap_iR2, int1_i, ap_gNm, ap_gTp, ap_gAll_nil, ap_gAll, semR_nx, semR_rt, List.getElem?_cons_zero, List.getElem?_cons_succ, List.set_cons_zero, List.set_cons_succ, List.length_cons, List.length_nil, if_true, if_false, Bool.not_true, Bool.not_false, Bool.false_eq_true, List.append_nil, List.nil_append, List.cons_append, reduceIte, isi_ii, isi_ib, isi_bi, isi_bb, isi_tt, isi_tl, isi_ll, isi_lt, isi_ss, and_d, or_d, and_b, or_b, Bool.or_false, Bool.false_or, Bool.or_true, Bool.true_or, Bool.and_true, Bool.true_and, Bool.and_false, Bool.false_and, wipe_nil, wipe_cons, D_nat, D_int, Nat.reduceAdd, Nat.reduceLeDiff, lm_ok, add_t, add_of, add_ff, add_df, add_dd, add_od, add_fd, Int.cast_ofNat_Int, Int.natCast_zero, Int.natCast_one, Nat.zero_add, Nat.zero_le, e23 ns k hn, e24, hmore, div_i (show (0 : Int) < 8 by decide) (k500 (by decide) (by decide)), hlg, k0, List.length_map, bR, Int.toNat_natCast, rng0, lp, b3, show ((3 : Int).toNat) = 3 from rfl, lp2]
theorem law_ok (ns : List Int) (hn : ns.length ≤ 63) : s_law [scr ns] = .ok (.bool true) := by
  obtain ⟨n, hnn, hn2⟩ : ∃ n : Nat, (if (if (ns.length : Int) < 4 then (ns.length : Int) else 4) > 1 then (if (ns.length : Int) < 4 then (ns.length : Int) else 4) else 1) = (n : Int) ∧ n ≤ 63 := by
    refine ⟨(if (if (ns.length : Int) < 4 then (ns.length : Int) else 4) > 1 then (if (ns.length : Int) < 4 then (ns.length : Int) else 4) else 1).toNat, ?_, ?_⟩
    · split <;> split <;> omega
    · split <;> split <;> omega
  have bn : b62 (n : Int) = true := b62_in (by omega) (by omega)
  obtain ⟨e, h1, h2⟩ := forGo_inv (g := gNm 1) (body := b_law_6) (xs := (List.range n).map fun (i : Nat) => PyData.int (i : Int)) (n := 0) (env := [.d (scr ns), .un, .un, .un, .un, .un, .un, .un, .un, .un, .un, .un, .un, .un, .un, .un, .un, .un])
    (fun _ env => ∃ m1 m2 m3 m4 m5 m6 m7 m8 m9 m10 m11 m12 m13 m14 m15 m16, Nw m15 ∧ env = [.d (scr ns), m1, m2, m3, m4, m5, m6, m7, m8, m9, m10, m11, m12, m13, m14, m15, m16, .un]) (fun i x env hx hi => by
      obtain ⟨m1, m2, m3, m4, m5, m6, m7, m8, m9, m10, m11, m12, m13, m14, m15, m16, a, rfl⟩ := hi
      obtain ⟨j, _, rfl⟩ := List.mem_map.mp (List.mem_of_getElem? hx)
      obtain ⟨n2, n3, n4, n5, n6, n7, n8, n9, n10, n11, n12, n13, n14, n15, n16, b1, b2⟩ := cell_ok ns (by omega) j m2 m3 m4 m5 m6 m7 m8 m9 m10 m11 m12 m13 m14 m15 m16 a
      exact ⟨_, _, rfl, .inl b2, _, _, _, _, _, _, _, _, _, _, _, _, _, _, _, _, b1, rfl⟩) ⟨_, _, _, _, _, _, _, _, _, _, _, _, _, _, _, _, .inl rfl, rfl⟩
  rw [e_law, f_law]
  simp only [ap_sSeq, ap_sNil, ap_sRet, ap_sRetN, ap_sCt, ap_sBk, ap_sRaise, ap_sExp, ap_sAsg, putL_d, putL_fr, ap_sIf, ap_sFor, ap_sUnp, un1_ok, ap_sPar, par2_nx, ap_sApp, ap_sExt, ext2_fr, ext2_d, ap_onOwn, on1_own, ap_sSto, sto2_int, sto3_some, fz1_d, fz1_un, fz1_own, ap_fzE_nil, ap_fzE, sq_nx, sq_rt, sq_bk, sq_ct, sq_ex, sq_stuck, okb, exb, stb, ap_eC, vr_d, vr_own, ap_eVar, ap_eBin, ap_eUn, ap_aNil, ap_aCons, ap_eFz, fzL_d, fzL_fr, fz_d, fz_fr, rd_d, rd_fr, rd_own, allD_nil, allD_cons, ap_eTup, ap_eLst, ap_eCall, ap_eBi, boolL_d, ap_tVal, ap_tAn, ap_tOr, ap_tNt, ap_tTrue, ap_eIf, ap_eAn, ap_eOr, ap_eNt, ap_eChain, ap_okB, ap_okI, add_i, sub_i, mul_i, lt_i, le_i, gt_i, ge_i, bLen_t, bLen_l, bLen_f, bLen_o, bLen_s, bInt_i, bInt_b, bList_t, bList_l, bList_f, bList_o, bTuple_t, bTuple_l, bTuple_f, bTuple_o, bMax_2, bMin_2, ix1_some, ix_t, ix_l, ix_f, ix_o, ix_s, at_0, at_1, at_2, ap_oNone, o1_i, ap_oSome, ap_eSl, sl_t, sl_l, sl_f, sl_o, itL_t, itL_l, ap_iEx, ap_iEn, ap_iZp, zipL_t, zipL_l, ap_iR1, ap_iR2, int1_i, ap_gNm, ap_gTp, ap_gAll_nil, ap_gAll, semR_nx, semR_rt, List.getElem?_cons_zero, List.getElem?_cons_succ, List.set_cons_zero, List.set_cons_succ, List.length_cons, List.length_nil, if_true, if_false, Bool.not_true, Bool.not_false, Bool.false_eq_true, List.append_nil, List.nil_append, List.cons_append, reduceIte, isi_ii, isi_ib, isi_bi, isi_bb, isi_tt, isi_tl, isi_ll, isi_lt, isi_ss, and_d, or_d, and_b, or_b, Bool.or_false, Bool.false_or, Bool.or_true, Bool.true_or, Bool.and_true, Bool.true_and, Bool.and_false, Bool.false_and, wipe_nil, wipe_cons, D_nat, D_int, Nat.reduceAdd, Nat.reduceLeDiff, lm_ok, add_t, add_of, add_ff, add_df, add_dd, add_od, add_fd, Int.cast_ofNat_Int, Int.natCast_zero, Int.natCast_one, Nat.zero_add, Nat.zero_le, hnn, bn, Int.toNat_natCast, rng0, h1]
end L11
namespace L11
open PySem PySem.Spec PyProof.Rows L2 PD
abbrev DefAt (S : Sys) (x : Str) (i : Nat) : Prop := ∃ fa fd, FunD S.K x x (defArgs (top i)) (defBody (top i)) (defScope (top i)) [] [] fa fd ∧ S.mg x = some (.ref fa)
structure Hd (S : Sys) : Prop where
  b : ∀ x ∈ bltNames, S.mg x = none
  i_MOST_SIDES : ConAt S "MOST_SIDES" (.int 6)
  i_MOST_WINS : ConAt S "MOST_WINS" (.int 60)
  i_MOST_LEFT : ConAt S "MOST_LEFT" (.int 9)
  x_BadLeague : ExcAt S "BadLeague"
  x_BadSide : ExcAt S "BadSide"
  x_BadMatch : ExcAt S "BadMatch"
  d_is_count : DefAt S "is_count" 9
  d_is_left : DefAt S "is_left" 10
  d_is_league : DefAt S "is_league" 11
  d_need_league : DefAt S "need_league" 12
  d_need_side : DefAt S "need_side" 13
  d_left_of : DefAt S "left_of" 14
  d_matches_left : DefAt S "matches_left" 15
  d_places_of : DefAt S "places_of" 16
  d_places : DefAt S "places" 17
  d_with_wins : DefAt S "with_wins" 18
  d_played : DefAt S "played" 19
  d_ended_of : DefAt S "ended_of" 20
  d_is_season : DefAt S "is_season" 21
  d_ended : DefAt S "ended" 22
  d__law_cell : DefAt S "_law_cell" 24
  d__law_drawn : DefAt S "_law_drawn" 25
  d__law_league : DefAt S "_law_league" 26
  d__law_ended : DefAt S "_law_ended" 27
  d__law_place : DefAt S "_law_place" 28
  d__law_played : DefAt S "_law_played" 29
  d_law : DefAt S "law" 30
theorem k_is_count {S : Sys} (h : Hd S) : FnAt S 1 "is_count" 3 s_is_count :=
  fnAt_of (ps := ["thing", "low", "high"]) h.d_is_count (fun _ _ _ _ _ _ us hl => match us, hl with | [_, _, _], _ => rfl) ⟨rfl, rfl, rfl, by decide +kernel, rfl, by decide +kernel, by decide +kernel⟩ rfl ⟨fns_nil, con_nil, blt_of h.b⟩ exc_nil r_is_count
theorem k_is_left {S : Sys} (h : Hd S) : FnAt S 2 "is_left" 2 s_is_left :=
  fnAt_of (ps := ["thing", "sides"]) h.d_is_left (fun _ _ _ _ _ _ us hl => match us, hl with | [_, _], _ => rfl) ⟨rfl, rfl, rfl, by decide +kernel, rfl, by decide +kernel, by decide +kernel⟩ rfl ⟨(fns_cons ((k_is_count h).mono (by decide)) fns_nil), (con_cons h.i_MOST_LEFT con_nil), blt_of h.b⟩ exc_nil r_is_left
theorem k_is_league {S : Sys} (h : Hd S) : FnAt S 3 "is_league" 1 s_is_league :=
  fnAt_of (ps := ["thing"]) h.d_is_league (fun _ _ _ _ _ _ us hl => match us, hl with | [_], _ => rfl) ⟨rfl, rfl, rfl, by decide +kernel, rfl, by decide +kernel, by decide +kernel⟩ rfl ⟨(fns_cons ((k_is_count h).mono (by decide)) (fns_cons ((k_is_left h).mono (by decide)) fns_nil)), (con_cons h.i_MOST_SIDES (con_cons h.i_MOST_WINS con_nil)), blt_of h.b⟩ exc_nil r_is_league
theorem k_need_league {S : Sys} (h : Hd S) : FnAt S 4 "need_league" 1 s_need_league :=
  fnAt_of (ps := ["league"]) h.d_need_league (fun _ _ _ _ _ _ us hl => match us, hl with | [_], _ => rfl) ⟨rfl, rfl, rfl, by decide +kernel, rfl, by decide +kernel, by decide +kernel⟩ rfl ⟨(fns_cons ((k_is_league h).mono (by decide)) fns_nil), con_nil, blt_of h.b⟩ (exc_cons h.x_BadLeague exc_nil) r_need_league
theorem k_need_side {S : Sys} (h : Hd S) : FnAt S 2 "need_side" 2 s_need_side :=
  fnAt_of (ps := ["league", "side"]) h.d_need_side (fun _ _ _ _ _ _ us hl => match us, hl with | [_, _], _ => rfl) ⟨rfl, rfl, rfl, by decide +kernel, rfl, by decide +kernel, by decide +kernel⟩ rfl ⟨(fns_cons ((k_is_count h).mono (by decide)) fns_nil), con_nil, blt_of h.b⟩ (exc_cons h.x_BadSide exc_nil) r_need_side
theorem k_left_of {S : Sys} (h : Hd S) : FnAt S 1 "left_of" 2 s_left_of :=
  fnAt_of (ps := ["league", "side"]) h.d_left_of (fun _ _ _ _ _ _ us hl => match us, hl with | [_, _], _ => rfl) ⟨rfl, rfl, rfl, by decide +kernel, rfl, by decide +kernel, by decide +kernel⟩ rfl ⟨fns_nil, con_nil, blt_of h.b⟩ exc_nil r_left_of
theorem k_matches_left {S : Sys} (h : Hd S) : FnAt S 5 "matches_left" 2 s_matches_left :=
  fnAt_of (ps := ["league", "side"]) h.d_matches_left (fun _ _ _ _ _ _ us hl => match us, hl with | [_, _], _ => rfl) ⟨rfl, rfl, rfl, by decide +kernel, rfl, by decide +kernel, by decide +kernel⟩ rfl ⟨(fns_cons ((k_need_league h).mono (by decide)) (fns_cons ((k_need_side h).mono (by decide)) (fns_cons ((k_left_of h).mono (by decide)) fns_nil))), con_nil, blt_of h.b⟩ exc_nil r_matches_left
theorem k_places_of {S : Sys} (h : Hd S) : FnAt S 1 "places_of" 1 s_places_of :=
  fnAt_of (ps := ["wins"]) h.d_places_of (fun _ _ _ _ _ _ us hl => match us, hl with | [_], _ => rfl) ⟨rfl, rfl, rfl, by decide +kernel, rfl, by decide +kernel, by decide +kernel⟩ rfl ⟨fns_nil, con_nil, blt_of h.b⟩ exc_nil r_places_of
theorem k_places {S : Sys} (h : Hd S) : FnAt S 5 "places" 1 s_places :=
  fnAt_of (ps := ["league"]) h.d_places (fun _ _ _ _ _ _ us hl => match us, hl with | [_], _ => rfl) ⟨rfl, rfl, rfl, by decide +kernel, rfl, by decide +kernel, by decide +kernel⟩ rfl ⟨(fns_cons ((k_need_league h).mono (by decide)) (fns_cons ((k_places_of h).mono (by decide)) fns_nil)), con_nil, blt_of h.b⟩ exc_nil r_places
theorem k_with_wins {S : Sys} (h : Hd S) : FnAt S 1 "with_wins" 3 s_with_wins :=
  fnAt_of (ps := ["wins", "side", "by"]) h.d_with_wins (fun _ _ _ _ _ _ us hl => match us, hl with | [_, _, _], _ => rfl) ⟨rfl, rfl, rfl, by decide +kernel, rfl, by decide +kernel, by decide +kernel⟩ rfl ⟨fns_nil, con_nil, blt_of h.b⟩ exc_nil r_with_wins
theorem k_played {S : Sys} (h : Hd S) : FnAt S 5 "played" 3 s_played :=
  fnAt_of (ps := ["league", "winner", "loser"]) h.d_played (fun _ _ _ _ _ _ us hl => match us, hl with | [_, _, _], _ => rfl) ⟨rfl, rfl, rfl, by decide +kernel, rfl, by decide +kernel, by decide +kernel⟩ rfl ⟨(fns_cons ((k_need_league h).mono (by decide)) (fns_cons ((k_need_side h).mono (by decide)) (fns_cons ((k_with_wins h).mono (by decide)) fns_nil))), (con_cons h.i_MOST_WINS con_nil), blt_of h.b⟩ (exc_cons h.x_BadMatch exc_nil) r_played
theorem k_ended_of {S : Sys} (h : Hd S) : FnAt S 2 "ended_of" 2 s_ended_of :=
  fnAt_of (ps := ["league", "season"]) h.d_ended_of (fun _ _ _ _ _ _ us hl => match us, hl with | [_, _], _ => rfl) ⟨rfl, rfl, rfl, by decide +kernel, rfl, by decide +kernel, by decide +kernel⟩ rfl ⟨(fns_cons ((k_with_wins h).mono (by decide)) fns_nil), con_nil, blt_of h.b⟩ exc_nil r_ended_of
theorem k_is_season {S : Sys} (h : Hd S) : FnAt S 2 "is_season" 2 s_is_season :=
  fnAt_of (ps := ["league", "thing"]) h.d_is_season (fun _ _ _ _ _ _ us hl => match us, hl with | [_, _], _ => rfl) ⟨rfl, rfl, rfl, by decide +kernel, rfl, by decide +kernel, by decide +kernel⟩ rfl ⟨(fns_cons ((k_is_count h).mono (by decide)) fns_nil), con_nil, blt_of h.b⟩ exc_nil r_is_season
theorem k_ended {S : Sys} (h : Hd S) : FnAt S 5 "ended" 2 s_ended :=
  fnAt_of (ps := ["league", "season"]) h.d_ended (fun _ _ _ _ _ _ us hl => match us, hl with | [_, _], _ => rfl) ⟨rfl, rfl, rfl, by decide +kernel, rfl, by decide +kernel, by decide +kernel⟩ rfl ⟨(fns_cons ((k_need_league h).mono (by decide)) (fns_cons ((k_ended_of h).mono (by decide)) (fns_cons ((k_is_season h).mono (by decide)) fns_nil))), con_nil, blt_of h.b⟩ (exc_cons h.x_BadMatch exc_nil) r_ended
theorem k__law_cell {S : Sys} (h : Hd S) : FnAt S 1 "_law_cell" 2 s__law_cell :=
  fnAt_of (ps := ["_law_script", "_law_k"]) h.d__law_cell (fun _ _ _ _ _ _ us hl => match us, hl with | [_, _], _ => rfl) ⟨rfl, rfl, rfl, by decide +kernel, rfl, by decide +kernel, by decide +kernel⟩ rfl ⟨fns_nil, con_nil, blt_of h.b⟩ exc_nil r__law_cell
theorem k__law_drawn {S : Sys} (h : Hd S) : FnAt S 1 "_law_drawn" 2 s__law_drawn :=
  fnAt_of (ps := ["_law_cell_here", "_law_k"]) h.d__law_drawn (fun _ _ _ _ _ _ us hl => match us, hl with | [_, _], _ => rfl) ⟨rfl, rfl, rfl, by decide +kernel, rfl, by decide +kernel, by decide +kernel⟩ rfl ⟨fns_nil, con_nil, blt_of h.b⟩ exc_nil r__law_drawn
theorem k__law_league {S : Sys} (h : Hd S) : FnAt S 2 "_law_league" 2 s__law_league :=
  fnAt_of (ps := ["_law_more", "_law_most"]) h.d__law_league (fun _ _ _ _ _ _ us hl => match us, hl with | [_, _], _ => rfl) ⟨rfl, rfl, rfl, by decide +kernel, rfl, by decide +kernel, by decide +kernel⟩ rfl ⟨(fns_cons ((k__law_drawn h).mono (by decide)) fns_nil), con_nil, blt_of h.b⟩ exc_nil r__law_league
theorem k__law_ended {S : Sys} (h : Hd S) : FnAt S 1 "_law_ended" 2 s__law_ended :=
  fnAt_of (ps := ["_law_league_here", "_law_season"]) h.d__law_ended (fun _ _ _ _ _ _ us hl => match us, hl with | [_, _], _ => rfl) ⟨rfl, rfl, rfl, by decide +kernel, rfl, by decide +kernel, by decide +kernel⟩ rfl ⟨fns_nil, con_nil, blt_of h.b⟩ exc_nil r__law_ended
theorem k__law_place {S : Sys} (h : Hd S) : FnAt S 1 "_law_place" 2 s__law_place :=
  fnAt_of (ps := ["_law_wins", "_law_side"]) h.d__law_place (fun _ _ _ _ _ _ us hl => match us, hl with | [_, _], _ => rfl) ⟨rfl, rfl, rfl, by decide +kernel, rfl, by decide +kernel, by decide +kernel⟩ rfl ⟨fns_nil, con_nil, blt_of h.b⟩ exc_nil r__law_place
theorem k__law_played {S : Sys} (h : Hd S) : FnAt S 1 "_law_played" 3 s__law_played :=
  fnAt_of (ps := ["_law_league_here", "_law_winner", "_law_loser"]) h.d__law_played (fun _ _ _ _ _ _ us hl => match us, hl with | [_, _, _], _ => rfl) ⟨rfl, rfl, rfl, by decide +kernel, rfl, by decide +kernel, by decide +kernel⟩ rfl ⟨fns_nil, con_nil, blt_of h.b⟩ exc_nil r__law_played
theorem k_law {S : Sys} (h : Hd S) {fa : Addr} {fd : FuncData} (F : FunD S.K "law" "law" (defArgs (top 30)) (defBody (top 30)) (defScope (top 30)) [] [] fa fd) : FnOk S.P S.w S.K S.mg S.base (L2.CX S.P S.w) 6 fa fd ["_law_script"] (spD S 1 s_law) :=
  fnOk_of (ps := ["_law_script"]) F ⟨rfl, rfl, rfl, by decide +kernel, rfl, by decide +kernel, by decide +kernel⟩ rfl ⟨(fns_cons ((k_matches_left h).mono (by decide)) (fns_cons ((k_places h).mono (by decide)) (fns_cons ((k_played h).mono (by decide)) (fns_cons ((k_ended h).mono (by decide)) (fns_cons ((k__law_cell h).mono (by decide)) (fns_cons ((k__law_drawn h).mono (by decide)) (fns_cons ((k__law_league h).mono (by decide)) (fns_cons ((k__law_ended h).mono (by decide)) (fns_cons ((k__law_place h).mono (by decide)) (fns_cons ((k__law_played h).mono (by decide)) fns_nil)))))))))), con_nil, blt_of h.b⟩ exc_nil r_law
def dd (i : Nat) (x : Str) : He.DefD := ⟨(x, none), x, x, defArgs (top i), defBody (top i), defScope (top i), [], []⟩
def fn : List He.DefD := [dd 9 "is_count", dd 10 "is_left", dd 11 "is_league", dd 12 "need_league", dd 13 "need_side", dd 14 "left_of", dd 15 "matches_left", dd 16 "places_of", dd 17 "places", dd 18 "with_wins", dd 19 "played", dd 20 "ended_of", dd 21 "is_season", dd 22 "ended", dd 24 "_law_cell", dd 25 "_law_drawn", dd 26 "_law_league", dd 27 "_law_ended", dd 28 "_law_place", dd 29 "_law_played", dd 30 "law"]
def fa : List He.Fa := [.glo "is_count", .glo "is_left", .glo "is_league", .glo "need_league", .glo "need_side", .glo "left_of", .glo "matches_left", .glo "places_of", .glo "places", .glo "with_wins", .glo "played", .glo "ended_of", .glo "is_season", .glo "ended", .glo "_law_cell", .glo "_law_drawn", .glo "_law_league", .glo "_law_ended", .glo "_law_place", .glo "_law_played", .glo "law", .glo "BadLeague", .glo "BadSide", .glo "BadMatch", .exc "BadLeague", .exc "BadSide", .exc "BadMatch", .int "MOST_SIDES" 6, .int "MOST_WINS" 60, .int "MOST_LEFT" 9, .free "len", .free "range", .free "isinstance", .free "int", .free "str", .free "bool", .free "list", .free "tuple", .free "sum", .free "all", .free "any", .free "max", .free "min", .free "sorted", .free "set", .free "zip", .free "enumerate", .free "abs", .free "dict"]
abbrev Rw : PySem.W.OpenRow := PySem.W.OpenLaw.row PySem.Challenge.rw_leaguechains_k11_whole_any_order
abbrev hk : PySem.W.Hook := He.hookD 4 fa fn
def ob (s : PySem.W.SharedT) : He.AlD := He.obsDG 4 fa fn (HandSHeadRun.getT s)
theorem ob_eq (s : PySem.W.SharedT) : ob s = hk.obs s.abs := He.obsDG_eq (HandSHeadRun.getT_eq s)
theorem run (w : World) : HandSHeadRun.RunEq Rw (PySem.W.view Rw.prog [30]) hk ob 2000 ["LeagueError", "BadLeague", "BadSide", "BadMatch", "MOST_SIDES", "MOST_WINS", "MOST_LEFT", "is_count", "is_left", "is_league", "need_league", "need_side", "left_of", "matches_left", "places_of", "places", "with_wins", "played", "ended_of", "is_season", "ended", "_law_cell", "_law_drawn", "_law_league", "_law_ended", "_law_place", "_law_played"] w := by
  intro os
  kernel_rfl
theorem hd_of {P : Program} {w : World} {K : PySem.W.Frag} {h : Heap} {mg : Str → Option Value} {base : Heap} (X : K.In h) (G : h.Ns mainGlobals mg) (c : He.SaysD fa fn K) : Hd (sysOf P w K mg base) where
  b := by
    intro x hx
    simp only [bltNames, List.mem_cons, List.not_mem_nil, or_false] at hx
    rcases hx with e | e | e | e | e | e | e | e | e | e | e | e | e | e | e | e | e | e | e
    · subst e; exact He.free_ok X G (c.fact 30 (f := .free "len") rfl)
    · subst e; exact He.free_ok X G (c.fact 31 (f := .free "range") rfl)
    · subst e; exact He.free_ok X G (c.fact 32 (f := .free "isinstance") rfl)
    · subst e; exact He.free_ok X G (c.fact 33 (f := .free "int") rfl)
    · subst e; exact He.free_ok X G (c.fact 34 (f := .free "str") rfl)
    · subst e; exact He.free_ok X G (c.fact 35 (f := .free "bool") rfl)
    · subst e; exact He.free_ok X G (c.fact 36 (f := .free "list") rfl)
    · subst e; exact He.free_ok X G (c.fact 37 (f := .free "tuple") rfl)
    · subst e; exact He.free_ok X G (c.fact 38 (f := .free "sum") rfl)
    · subst e; exact He.free_ok X G (c.fact 39 (f := .free "all") rfl)
    · subst e; exact He.free_ok X G (c.fact 40 (f := .free "any") rfl)
    · subst e; exact He.free_ok X G (c.fact 41 (f := .free "max") rfl)
    · subst e; exact He.free_ok X G (c.fact 42 (f := .free "min") rfl)
    · subst e; exact He.free_ok X G (c.fact 43 (f := .free "sorted") rfl)
    · subst e; exact He.free_ok X G (c.fact 44 (f := .free "set") rfl)
    · subst e; exact He.free_ok X G (c.fact 45 (f := .free "zip") rfl)
    · subst e; exact He.free_ok X G (c.fact 46 (f := .free "enumerate") rfl)
    · subst e; exact He.free_ok X G (c.fact 47 (f := .free "abs") rfl)
    · subst e; exact He.free_ok X G (c.fact 48 (f := .free "dict") rfl)
  i_MOST_SIDES := con_int (He.int_ok X G (c.fact 27 (f := .int "MOST_SIDES" 6) rfl))
  i_MOST_WINS := con_int (He.int_ok X G (c.fact 28 (f := .int "MOST_WINS" 60) rfl))
  i_MOST_LEFT := con_int (He.int_ok X G (c.fact 29 (f := .int "MOST_LEFT" 9) rfl))
  x_BadLeague := excAt_of (He.glo_ok X G (c.fact 21 (f := .glo "BadLeague") rfl)) (c.fact 24 (f := .exc "BadLeague") rfl)
  x_BadSide := excAt_of (He.glo_ok X G (c.fact 22 (f := .glo "BadSide") rfl)) (c.fact 25 (f := .exc "BadSide") rfl)
  x_BadMatch := excAt_of (He.glo_ok X G (c.fact 23 (f := .glo "BadMatch") rfl)) (c.fact 26 (f := .exc "BadMatch") rfl)
  d_is_count := by
    obtain ⟨fd, F⟩ := c.def_ 0 (d := dd 9 "is_count") rfl
    exact ⟨_, fd, F, He.glo_ok X G (c.fact 0 (f := .glo "is_count") rfl)⟩
  d_is_left := by
    obtain ⟨fd, F⟩ := c.def_ 1 (d := dd 10 "is_left") rfl
    exact ⟨_, fd, F, He.glo_ok X G (c.fact 1 (f := .glo "is_left") rfl)⟩
  d_is_league := by
    obtain ⟨fd, F⟩ := c.def_ 2 (d := dd 11 "is_league") rfl
    exact ⟨_, fd, F, He.glo_ok X G (c.fact 2 (f := .glo "is_league") rfl)⟩
  d_need_league := by
    obtain ⟨fd, F⟩ := c.def_ 3 (d := dd 12 "need_league") rfl
    exact ⟨_, fd, F, He.glo_ok X G (c.fact 3 (f := .glo "need_league") rfl)⟩
  d_need_side := by
    obtain ⟨fd, F⟩ := c.def_ 4 (d := dd 13 "need_side") rfl
    exact ⟨_, fd, F, He.glo_ok X G (c.fact 4 (f := .glo "need_side") rfl)⟩
  d_left_of := by
    obtain ⟨fd, F⟩ := c.def_ 5 (d := dd 14 "left_of") rfl
    exact ⟨_, fd, F, He.glo_ok X G (c.fact 5 (f := .glo "left_of") rfl)⟩
  d_matches_left := by
    obtain ⟨fd, F⟩ := c.def_ 6 (d := dd 15 "matches_left") rfl
    exact ⟨_, fd, F, He.glo_ok X G (c.fact 6 (f := .glo "matches_left") rfl)⟩
  d_places_of := by
    obtain ⟨fd, F⟩ := c.def_ 7 (d := dd 16 "places_of") rfl
    exact ⟨_, fd, F, He.glo_ok X G (c.fact 7 (f := .glo "places_of") rfl)⟩
  d_places := by
    obtain ⟨fd, F⟩ := c.def_ 8 (d := dd 17 "places") rfl
    exact ⟨_, fd, F, He.glo_ok X G (c.fact 8 (f := .glo "places") rfl)⟩
  d_with_wins := by
    obtain ⟨fd, F⟩ := c.def_ 9 (d := dd 18 "with_wins") rfl
    exact ⟨_, fd, F, He.glo_ok X G (c.fact 9 (f := .glo "with_wins") rfl)⟩
  d_played := by
    obtain ⟨fd, F⟩ := c.def_ 10 (d := dd 19 "played") rfl
    exact ⟨_, fd, F, He.glo_ok X G (c.fact 10 (f := .glo "played") rfl)⟩
  d_ended_of := by
    obtain ⟨fd, F⟩ := c.def_ 11 (d := dd 20 "ended_of") rfl
    exact ⟨_, fd, F, He.glo_ok X G (c.fact 11 (f := .glo "ended_of") rfl)⟩
  d_is_season := by
    obtain ⟨fd, F⟩ := c.def_ 12 (d := dd 21 "is_season") rfl
    exact ⟨_, fd, F, He.glo_ok X G (c.fact 12 (f := .glo "is_season") rfl)⟩
  d_ended := by
    obtain ⟨fd, F⟩ := c.def_ 13 (d := dd 22 "ended") rfl
    exact ⟨_, fd, F, He.glo_ok X G (c.fact 13 (f := .glo "ended") rfl)⟩
  d__law_cell := by
    obtain ⟨fd, F⟩ := c.def_ 14 (d := dd 24 "_law_cell") rfl
    exact ⟨_, fd, F, He.glo_ok X G (c.fact 14 (f := .glo "_law_cell") rfl)⟩
  d__law_drawn := by
    obtain ⟨fd, F⟩ := c.def_ 15 (d := dd 25 "_law_drawn") rfl
    exact ⟨_, fd, F, He.glo_ok X G (c.fact 15 (f := .glo "_law_drawn") rfl)⟩
  d__law_league := by
    obtain ⟨fd, F⟩ := c.def_ 16 (d := dd 26 "_law_league") rfl
    exact ⟨_, fd, F, He.glo_ok X G (c.fact 16 (f := .glo "_law_league") rfl)⟩
  d__law_ended := by
    obtain ⟨fd, F⟩ := c.def_ 17 (d := dd 27 "_law_ended") rfl
    exact ⟨_, fd, F, He.glo_ok X G (c.fact 17 (f := .glo "_law_ended") rfl)⟩
  d__law_place := by
    obtain ⟨fd, F⟩ := c.def_ 18 (d := dd 28 "_law_place") rfl
    exact ⟨_, fd, F, He.glo_ok X G (c.fact 18 (f := .glo "_law_place") rfl)⟩
  d__law_played := by
    obtain ⟨fd, F⟩ := c.def_ 19 (d := dd 29 "_law_played") rfl
    exact ⟨_, fd, F, He.glo_ok X G (c.fact 19 (f := .glo "_law_played") rfl)⟩
  d_law := by
    obtain ⟨fd, F⟩ := c.def_ 20 (d := dd 30 "law") rfl
    exact ⟨_, fd, F, He.glo_ok X G (c.fact 20 (f := .glo "law") rfl)⟩
end L11
open PySem PySem.W PySem.Calls PyProof.Rows
theorem PySem.Challenge.cw_leaguechains_k11_whole_any_order_holds : PySem.Challenge.rw_leaguechains_k11_whole_any_order.Holds := by
  w_on; o_law
  refine HandSHeadRun.head_any (r := OpenLaw.row PySem.Challenge.rw_leaguechains_k11_whole_any_order) (q := view (OpenLaw.row PySem.Challenge.rw_leaguechains_k11_whole_any_order).prog [30]) (H := L11.hk) (ob := L11.ob) (M := 2000) (loose := ["LeagueError", "BadLeague", "BadSide", "BadMatch", "MOST_SIDES", "MOST_WINS", "MOST_LEFT", "is_count", "is_left", "is_league", "need_league", "need_side", "left_of", "matches_left", "places_of", "places", "with_wins", "played", "ended_of", "is_season", "ended", "_law_cell", "_law_drawn", "_law_league", "_law_ended", "_law_place", "_law_played"]) (d := HandSHeadRun.topDef (OpenLaw.row PySem.Challenge.rw_leaguechains_k11_whole_any_order).prog 30) (kwd := []) L11.ob_eq
    (by kernel_rfl) (fun s => by kernel_rfl) L11.run (by kernel_rfl) (by kernel_rfl) (by kernel_rfl) (by rfl) (by first | assumption | decide +kernel) (by decide +kernel) ⟨rfl, rfl, rfl, rfl, rfl, by decide +kernel⟩ ?hw ?hc
  case hw => w_witness2
  case hc =>
    refine L2.walk_ofE (l := PySem.Challenge.rw_leaguechains_k11_whole_any_order) (n := 63) (k := 6) (x := "_law_script") (CX := L2.CX0) rfl (by decide) (by kernel_rfl) ⟨rfl, by decide, by decide⟩ ?F (fun _ _ _ _ z => z)
    intro w mg fa h Y G hmg0
    obtain ⟨K, KX, c⟩ := Y
    have hmg : mg ("law" : PySem.Str) = some (.ref fa) := by
      have e : (HandSHeadRun.topDef (OpenLaw.row PySem.Challenge.rw_leaguechains_k11_whole_any_order).prog 30).name = ("law" : PySem.Str) := by kernel_rfl
      rw [← e]
      exact hmg0
    obtain ⟨fd, F⟩ := c.def_ 20 (d := L11.dd 30 "law") rfl
    have e := hmg.symm.trans (He.glo_ok KX G (c.fact 20 (f := .glo "law") rfl))
    cases e
    have b := L2.FunD.bindsA (ps := ["_law_script"]) F fun _ _ _ _ _ _ us hl => match us, hl with | [_], _ => rfl
    exact ⟨K, fd, PD.spLaw K, KX, fun s v => b s [v] rfl, fun H a ns hl ho hs => ⟨a, ns, rfl, ho, hs, hl, fun _ => rfl⟩, fun base X2 G2 => PD.fnOk_calm (fun vs H Q E E2 q => q) ((L11.k_law (L11.hd_of (P := (PySem.Challenge.rw_leaguechains_k11_whole_any_order).prog) (w := w) (base := base) KX G c) F).imp fun vs H Q E q => PD.spLaw_ok L11.law_ok vs H Q E q)⟩
